import PyProof.Rows.All
import Wide.All
import OpenK.AllK
import Wide.FinOn
import HandS.ForMost
import HandS.Flow
import HandS.Style
import HandS.Wide
import HandS.Gcd
import HandS.Conv
import HandS.Zip
import HandS.Rev
import HandS.RevRange
import HandS.IsInst
import HandS.Deep
import HandS.TupAny
import HandS.TryOnly
import HandS.TupLe
import HandS.TupMul
import KE.DataCmp
import KE.SortData
import HandS.AnyAll
import HandS.RevTup
import KE.GoesMore
import KE.GoesZip
import KE.DataAny
import HandS.More
import HandS.EndTab
import Flt.RightSqrt
import PySem.Challenge.RW_threecorners_k62_whole_parabolas_and_foc
set_option Elab.async false
set_option linter.all false
set_option maxRecDepth 100000
set_option maxHeartbeats 8000000
/-! MP1: values, how a heap bears them. -/
namespace MP
open PySem PySem.Spec PyProof.Rows L2

/-- a value of Python as plain data; st: the drawing state's handle -/
inductive W where
  | non | bl (b : Bool) | int (i : Int) | str (s : Str) | tup (l : List W) | lst (l : List W) | st
  deriving Inhabited

/-- the fixed parts of one run: the written part, the drawing state's objects -/
structure Sys (S : Type) where
  K : PySem.W.Frag
  hs : Addr
  R : Addr → Prop
  rel : S → Hp → Prop
  frame : ∀ s H H', rel s H → (∀ b, R b → H' b = H b) → rel s H'
  isl : ∀ s H b, rel s H → R b → ∃ o, H b = some o

section
variable {S : Type} (Y : Sys S)

/-- H' is H with more laid; the drawing state's lists may have changed; code tables may have grown -/
def Ext (H H' : Hp) : Prop := ∀ b o, H b = some o → H' b = some o ∨ (Y.R b ∧ (∃ xs, o = .lst xs) ∧ ∃ ys, H' b = some (.lst ys)) ∨ (∃ ps more, o = .tbl ps ∧ H' b = some (.tbl (ps ++ more)) ∧ (TriplesOk ps.toList → TriplesOk (ps ++ more).toList))

/-- a list that is read and never written: not of O -/
def SqLO (O : Addr → Prop) (H : Hp) (a : Addr) (vs : List V) : Prop := ¬ O a ∧ Rd H a (.lst vs)

mutual
def Rep (O : Addr → Prop) (H : Hp) : W → V → Prop
  | .non, v => v = .non
  | .bl b, v => v = .bl b
  | .int i, v => v = .int i
  | .str s, v => v = .str s
  | .tup l, v => ∃ a vs, v = .ref a ∧ SqT Y.K H a vs ∧ Reps O H l vs
  | .lst l, v => ∃ a vs, v = .ref a ∧ SqLO O H a vs ∧ Reps O H l vs
  | .st, v => v = .ref Y.hs
def Reps (O : Addr → Prop) (H : Hp) : List W → List V → Prop
  | [], vs => vs = []
  | w :: l, vs => ∃ v r, vs = v :: r ∧ Rep O H w v ∧ Reps O H l r
end
end

section
variable {S : Type} {Y : Sys S} {O O' : Addr → Prop} {H H' H1 H2 : Hp} {a b : Addr} {o : HO} {vs us : List V}

theorem Ext.refl : Ext Y H H := fun _ _ h => .inl h
theorem Ext.trans (h : Ext Y H H1) (g : Ext Y H1 H2) : Ext Y H H2 := by
  intro b o e
  rcases h b o e with e1 | ⟨r, ⟨xs, rfl⟩, ys, e1⟩ | ⟨ps, more, rfl, e1, t1⟩
  · exact g b o e1
  · rcases g b _ e1 with e2 | ⟨_, _, zs, e2⟩ | ⟨_, _, e2, _⟩
    · exact .inr (.inl ⟨r, ⟨xs, rfl⟩, ys, e2⟩)
    · exact .inr (.inl ⟨r, ⟨xs, rfl⟩, zs, e2⟩)
    · cases e2
  · rcases g b _ e1 with e2 | ⟨_, ⟨_, e2⟩, _⟩ | ⟨ps', more', e2, e3, t2⟩
    · exact .inr (.inr ⟨ps, more, rfl, e2, t1⟩)
    · cases e2
    · cases e2
      exact .inr (.inr ⟨ps, more ++ more', rfl, by rw [e3, Array.append_assoc], fun z => by rw [← Array.append_assoc]; exact t2 (t1 z)⟩)
theorem Ext.of_same (h : Same H H') : Ext Y H H' := fun b o e => .inl (h b o e)
theorem Ext.laid (hn : H a = none) : Ext Y H (upd H a o) := fun b u e => .inl (by rw [upd_ne (ne_of_none e hn)]; exact e)
theorem Ext.some_of (h : Ext Y H H') (e : H b = some o) : ∃ o', H' b = some o' := by
  rcases h b o e with e | ⟨_, _, _, e⟩ | ⟨_, _, _, e, _⟩ <;> exact ⟨_, e⟩
theorem Ext.none_of (h : Ext Y H H') (e : H' b = none) : H b = none := by
  cases q : H b with
  | none => rfl
  | some o => obtain ⟨o', e'⟩ := h.some_of q; rw [e] at e'; cases e'
theorem Ext.tup (h : Ext Y H H') (e : H a = some (.tup vs)) : H' a = some (.tup vs) := by
  rcases h a _ e with e | ⟨_, ⟨_, e⟩, _⟩ | ⟨_, _, e, _⟩
  · exact e
  · cases e
  · cases e
theorem Ext.frz {ob : Obj} {u : HO} (h : Ext Y H H') (e : H a = some (.frz ob u)) : H' a = some (.frz ob u) := by
  rcases h a _ e with e | ⟨_, ⟨_, e⟩, _⟩ | ⟨_, _, e, _⟩
  · exact e
  · cases e
  · cases e
theorem Ext.lst (h : Ext Y H H') (n : ¬ Y.R a) (e : H a = some (.lst vs)) : H' a = some (.lst vs) := by
  rcases h a _ e with e | ⟨r, _, _⟩ | ⟨_, _, e, _⟩
  · exact e
  · exact absurd r n
  · cases e
theorem Ext.sqT (h : Ext Y H H') (e : SqT Y.K H a vs) : SqT Y.K H' a vs := by
  rcases e with (e | ⟨ob, e⟩) | e
  · exact .inl (.inl (h.tup e))
  · exact .inl (.inr ⟨ob, h.frz e⟩)
  · exact .inr e
theorem Ext.sqLO (h : Ext Y H H') (hR : ∀ b, Y.R b → O b) (e : SqLO O H a vs) : SqLO O H' a vs := by
  rcases e with ⟨n, e | ⟨ob, e⟩⟩
  · exact ⟨n, .inl (h.lst (fun r => n (hR a r)) e)⟩
  · exact ⟨n, .inr ⟨ob, h.frz e⟩⟩
theorem SqLO.sqL {K : PySem.W.Frag} (h : SqLO O H a vs) : SqL K H a vs := .inl h.2

mutual
/-- what changes: any step that keeps tuples and the lists outside of O -/
theorem Rep.step (hT : ∀ a vs, SqT Y.K H a vs → SqT Y.K H' a vs) (hL : ∀ a vs, SqLO O H a vs → SqLO O' H' a vs) : ∀ (w : W) (v : V), Rep Y O H w v → Rep Y O' H' w v
  | .non, _, h => h
  | .bl _, _, h => h
  | .int _, _, h => h
  | .str _, _, h => h
  | .st, _, h => h
  | .tup l, _, ⟨a, vs, e, s, r⟩ => ⟨a, vs, e, hT a vs s, Reps.step hT hL l vs r⟩
  | .lst l, _, ⟨a, vs, e, s, r⟩ => ⟨a, vs, e, hL a vs s, Reps.step hT hL l vs r⟩
theorem Reps.step (hT : ∀ a vs, SqT Y.K H a vs → SqT Y.K H' a vs) (hL : ∀ a vs, SqLO O H a vs → SqLO O' H' a vs) : ∀ (l : List W) (vs : List V), Reps Y O H l vs → Reps Y O' H' l vs
  | [], _, h => h
  | w :: l, _, ⟨v, r, e, h1, h2⟩ => ⟨v, r, e, Rep.step hT hL w v h1, Reps.step hT hL l r h2⟩
end
theorem Rep.ext {w : W} {v : V} (h : Ext Y H H') (hR : ∀ b, Y.R b → O b) (r : Rep Y O H w v) : Rep Y O H' w v := r.step (fun _ _ => h.sqT) (fun _ _ => h.sqLO hR)
theorem Reps.ext {w : List W} {v : List V} (h : Ext Y H H') (hR : ∀ b, Y.R b → O b) (r : Reps Y O H w v) : Reps Y O H' w v := r.step (fun _ _ => h.sqT) (fun _ _ => h.sqLO hR)
/-- fewer owned lists: less is asked -/
theorem SqLO.less (h : ∀ b, O' b → O b) (e : SqLO O H a vs) : SqLO O' H a vs := by
  exact ⟨fun x => e.1 (h a x), e.2⟩
theorem Rep.less {w : W} {v : V} (h : ∀ b, O' b → O b) (r : Rep Y O H w v) : Rep Y O' H w v := r.step (fun _ _ x => x) (fun _ _ => SqLO.less h)
theorem Reps.less {w : List W} {v : List V} (h : ∀ b, O' b → O b) (r : Reps Y O H w v) : Reps Y O' H w v := r.step (fun _ _ x => x) (fun _ _ => SqLO.less h)
/-- an owned list is written -/
theorem Rep.upd {w : W} {v : V} {xs ys : List V} (hO : O a) (hH : H a = some (.lst xs)) (r : Rep Y O H w v) : Rep Y O (upd H a (.lst ys)) w v := by
  refine r.step (fun b vs e => ?_) (fun b vs e => ?_)
  · rcases e with (e | ⟨ob, e⟩) | e
    · have hb : b ≠ a := by intro z; rw [z, hH] at e; cases e
      exact .inl (.inl (by rw [upd_ne hb]; exact e))
    · have hb : b ≠ a := by intro z; rw [z, hH] at e; cases e
      exact .inl (.inr ⟨ob, by rw [upd_ne hb]; exact e⟩)
    · exact .inr e
  · obtain ⟨n, e⟩ := e
    have hb : b ≠ a := by intro z; rw [z] at n; exact n hO
    refine ⟨n, ?_⟩
    unfold Rd at *
    rw [upd_ne hb]; exact e
theorem Reps.upd {w : List W} {v : List V} {xs ys : List V} (hO : O a) (hH : H a = some (.lst xs)) (r : Reps Y O H w v) : Reps Y O (upd H a (.lst ys)) w v := by
  refine r.step (fun b vs e => ?_) (fun b vs e => ?_)
  · rcases e with (e | ⟨ob, e⟩) | e
    · have hb : b ≠ a := by intro z; rw [z, hH] at e; cases e
      exact .inl (.inl (by rw [upd_ne hb]; exact e))
    · have hb : b ≠ a := by intro z; rw [z, hH] at e; cases e
      exact .inl (.inr ⟨ob, by rw [upd_ne hb]; exact e⟩)
    · exact .inr e
  · obtain ⟨n, e⟩ := e
    have hb : b ≠ a := by intro z; rw [z] at n; exact n hO
    refine ⟨n, ?_⟩
    unfold Rd at *
    rw [upd_ne hb]; exact e

/-! ### lists of values -/
theorem Reps.length : ∀ {l : List W} {vs : List V}, Reps Y O H l vs → l.length = vs.length
  | [], _, h => by cases h; rfl
  | _ :: _, _, ⟨_, _, e, _, h⟩ => by cases e; simp [Reps.length h]
theorem Reps.get : ∀ {l : List W} {vs : List V} {i : Nat} {v : V}, Reps Y O H l vs → vs[i]? = some v → ∃ w, l[i]? = some w ∧ Rep Y O H w v
  | [], _, _, _, h, e => by cases h; simp at e
  | w :: l, _, 0, v, ⟨_, _, e1, h1, _⟩, e => by cases e1; simp at e; subst e; exact ⟨w, rfl, h1⟩
  | w :: l, _, i + 1, v, ⟨_, _, e1, _, h⟩, e => by cases e1; simpa using Reps.get h (by simpa using e)
theorem Reps.get' : ∀ {l : List W} {vs : List V} {i : Nat} {w : W}, Reps Y O H l vs → l[i]? = some w → ∃ v, vs[i]? = some v ∧ Rep Y O H w v
  | [], _, _, _, _, e => by simp at e
  | w :: l, _, 0, _, ⟨v, _, e1, h1, _⟩, e => by cases e1; simp at e; subst e; exact ⟨v, rfl, h1⟩
  | w :: l, _, i + 1, _, ⟨_, _, e1, _, h⟩, e => by cases e1; simpa using Reps.get' h (by simpa using e)
theorem Reps.append : ∀ {l m : List W} {vs us : List V}, Reps Y O H l vs → Reps Y O H m us → Reps Y O H (l ++ m) (vs ++ us)
  | [], _, _, _, h, g => by cases h; exact g
  | _ :: _, _, _, _, ⟨v, r, e, h1, h⟩, g => by cases e; exact ⟨v, _, rfl, h1, Reps.append h g⟩
theorem Reps.take : ∀ {l : List W} {vs : List V} (n : Nat), Reps Y O H l vs → Reps Y O H (l.take n) (vs.take n)
  | _, _, 0, _ => rfl
  | [], _, _ + 1, h => by cases h; rfl
  | _ :: _, _, n + 1, ⟨v, r, e, h1, h⟩ => by cases e; exact ⟨v, _, rfl, h1, Reps.take n h⟩
theorem Reps.drop : ∀ {l : List W} {vs : List V} (n : Nat), Reps Y O H l vs → Reps Y O H (l.drop n) (vs.drop n)
  | _, _, 0, h => h
  | [], _, _ + 1, h => by cases h; rfl
  | _ :: _, _, n + 1, ⟨v, r, e, _, h⟩ => by cases e; exact Reps.drop n h
theorem Reps.reverse : ∀ {l : List W} {vs : List V}, Reps Y O H l vs → Reps Y O H l.reverse vs.reverse
  | [], _, h => by cases h; rfl
  | w :: _, _, ⟨v, r, e, h1, h⟩ => by
    cases e
    rw [List.reverse_cons, List.reverse_cons]
    exact Reps.append (Reps.reverse h) ⟨v, [], rfl, h1, rfl⟩
theorem Reps.set : ∀ {l : List W} {vs : List V} (i : Nat) {w : W} {v : V}, Rep Y O H w v → Reps Y O H l vs → Reps Y O H (l.set i w) (vs.set i v)
  | [], _, _, _, _, _, h => by cases h; rfl
  | _ :: _, _, 0, w, v, q, ⟨_, r, e, _, h⟩ => by cases e; exact ⟨v, r, rfl, q, h⟩
  | _ :: _, _, i + 1, w, v, q, ⟨u, r, e, h1, h⟩ => by cases e; exact ⟨u, _, rfl, h1, Reps.set i q h⟩
theorem Reps.eraseIdx : ∀ {l : List W} {vs : List V} (i : Nat), Reps Y O H l vs → Reps Y O H (l.eraseIdx i) (vs.eraseIdx i)
  | [], _, _, h => by cases h; rfl
  | _ :: _, _, 0, ⟨_, r, e, _, h⟩ => by cases e; exact h
  | _ :: _, _, i + 1, ⟨u, r, e, h1, h⟩ => by cases e; exact ⟨u, _, rfl, h1, Reps.eraseIdx i h⟩
theorem Reps.dropLast {l : List W} {vs : List V} (h : Reps Y O H l vs) : Reps Y O H l.dropLast vs.dropLast := by
  rw [List.dropLast_eq_take, List.dropLast_eq_take, h.length]
  exact Reps.take _ h
theorem Reps.nil : Reps Y O H [] [] := rfl
theorem Reps.cons {w : W} {l : List W} {v : V} {vs : List V} (h : Rep Y O H w v) (g : Reps Y O H l vs) : Reps Y O H (w :: l) (v :: vs) := ⟨v, vs, rfl, h, g⟩
theorem Reps.ints : ∀ {ns : List Int} {vs : List V}, Reps Y O H (ns.map W.int) vs → vs = ns.map V.int
  | [], _, h => h
  | _ :: _, _, ⟨_, _, e, h1, h⟩ => by cases e; rw [List.map_cons, Reps.ints h, show _ = V.int _ from h1]
theorem reps_ints : ∀ (ns : List Int), Reps Y O H (ns.map W.int) (ns.map V.int)
  | [] => rfl
  | _ :: ns => ⟨_, _, rfl, rfl, reps_ints ns⟩

/-! ### values without lists -/
mutual
def flat : W → Bool
  | .lst _ => false
  | .tup l => flats l
  | _ => true
def flats : List W → Bool
  | [] => true
  | w :: l => flat w && flats l
end
mutual
theorem Rep.flat : ∀ (w : W) (v : V), MP.flat w = true → Rep Y O H w v → Rep Y O' H w v
  | .non, _, _, h => h
  | .bl _, _, _, h => h
  | .int _, _, _, h => h
  | .str _, _, _, h => h
  | .st, _, _, h => h
  | .tup l, _, f, ⟨a, vs, e, s, r⟩ => ⟨a, vs, e, s, Reps.flat l vs (by simpa [MP.flat] using f) r⟩
  | .lst _, _, f, _ => by simp [MP.flat] at f
theorem Reps.flat : ∀ (l : List W) (vs : List V), flats l = true → Reps Y O H l vs → Reps Y O' H l vs
  | [], _, _, h => h
  | w :: l, _, f, ⟨v, r, e, h1, h2⟩ => by
    have f' : MP.flat w = true ∧ flats l = true := by simpa [flats] using f
    exact ⟨v, r, e, Rep.flat w v f'.1 h1, Reps.flat l r f'.2 h2⟩
end
end
end MP

/-! GN: any, all of a generator expression over a tuple, its test without calls. -/
namespace MP
open PySem PySem.Spec PyProof.Rows L2 GxR

/-- the test of an item: x != 0, x[0] > 0 -/
inductive GE where
  | ne0 (p1 : Pos) (k : Nat) (p2 p3 : Pos)
  | gt0 (p1 : Pos) (k1 : Nat) (p2 p3 : Pos) (k2 : Nat) (p4 p5 : Pos)
def GE.ast (x : Str) : GE → Expr
  | .ne0 p1 k p2 p3 => .Compare (.Name x p1) [.NotEq] [.Constant (.int 0) k p2] p3
  | .gt0 p1 k1 p2 p3 k2 p4 p5 => .Compare (.Subscript (.Name x p1) (.Constant (.int 0) k1 p2) p3) [.Gt] [.Constant (.int 0) k2 p4] p5
def GE.tst : GE → W → Option Bool
  | .ne0 .., .int i => some (i != 0)
  | .gt0 .., .tup (.int i :: _) => some (decide (0 < i))
  | _, _ => none
def tstAll (g : GE) : List W → Option (List Bool)
  | [] => some []
  | w :: l => (g.tst w).bind fun b => (tstAll g l).map fun r => b :: r
theorem tstAll_len {g : GE} : ∀ {l : List W} {bs : List Bool}, tstAll g l = some bs → bs.length = l.length
  | [], bs, h => by cases h; rfl
  | w :: l, bs, h => by
    rw [tstAll, Option.bind_eq_some_iff] at h
    obtain ⟨b, _, h⟩ := h
    rw [Option.map_eq_some_iff] at h
    obtain ⟨r, h1, rfl⟩ := h
    simp [tstAll_len h1]
theorem tstAll_get {g : GE} : ∀ {l : List W} {bs : List Bool}, tstAll g l = some bs → ∀ (i : Nat) w, l[i]? = some w → g.tst w = some (bs.getD i false)
  | w0 :: l, bs, h, i, w, e => by
    rw [tstAll, Option.bind_eq_some_iff] at h
    obtain ⟨b, hb, h⟩ := h
    rw [Option.map_eq_some_iff] at h
    obtain ⟨r, h1, rfl⟩ := h
    cases i with
    | zero => cases e; simpa using hb
    | succ i => simpa using tstAll_get h1 i w (by simpa using e)
/-- the test asked at any state that keeps what stood at h -/
def EltQ (prog : Program) (w : World) (scope : Scope) (x : Str) (elt : Expr) (its : List Value) (h : Heap) (P : Addr) (bs : List Bool) : Prop :=
  ∀ (cenv : Env) (B : Around) (E' : Value → Shared → Prop) (i : Nat) (v : Value) (u : Shared) (m : Str → Option Value), cenv.scope = scope → u.heap.Ns cenv.locals m → m x = some v → its[i]? = some v →
    (∀ b o, h.get? b = some o → b ≠ P → u.heap.get? b = some o) → wpAny (model prog w) B (eval elt cenv) (fun y z => y = .bool (bs.getD i false) ∧ Keeps u z) E' u
/-- the table at P has grown, nothing else is changed -/
def Tabd (P : Addr) (H H' : Hp) : Prop := ∃ ps more, H P = some (.tbl ps) ∧ TriplesOk ps.toList ∧ H' P = some (.tbl (ps ++ more)) ∧ TriplesOk (ps ++ more).toList ∧ ∀ b, b ≠ P → H' b = H b
/-- the generator made, nothing of it asked -/
def ReadyT (X : Cx) (pins : List (Addr × Obj)) (σ : L2.St) (H1 : Hp) (P : Addr) (bs : List Bool) (g : Addr) (u : Shared) : Prop :=
  ∃ (fp wr : List Addr) (G : Array GenState → Array GenState → Prop) (F : Nat → Value → Prop) (St : Nat → Shared → Prop), WalksS X.prog X.w X.A.in1 g fp wr G bs.length F St ∧ St 0 u ∧
    TruthOf X.prog X.w X.A.in1 F (fun j => bs.getD j false) ∧ ∀ u', Moved wr G u u' → ∃ H2, Tabd P H1 H2 ∧ Inv X pins σ H2 u'
section
variable {X : Cx} {pins : List (Addr × Obj)} {σ : L2.St} {H : Hp} {s : Shared}
theorem gen_run {c P : Addr} {elt iter : Expr} {x : Str} {px gpos : Pos} {scope : Scope} {te : TE} {k : Nat} {Q' : Value → Shared → Prop} {R : Hp → List Bool → Prop}
    (hr : Room k X.A) (TB : TabB X.base X.mg c P) (hcode : X.env.code = .ref c) (S : GenS X.env scope x) (hi : PE X iter te) (hs : ∀ v, genFold iter X.env v = pure v) (I : Inv X pins σ H s)
    (h : te σ H fun v H1 => ∃ (a : Addr) (xs : List V) (bs : List Bool), v = .ref a ∧ SqT X.K H1 a xs ∧ TabG H1 P ∧ bs.length = xs.length ∧ R H1 bs ∧ ∀ pins u its, Inv X pins σ H1 u → Vals xs its → EltQ X.prog X.w scope x elt its u.heap P bs)
    (hQ : ∀ H1 bs g u, R H1 bs → ReadyT X pins σ H1 P bs g u → Q' (.ref g) u) :
    wpAny (model X.prog X.w) X.A (eval (.GeneratorExp elt [⟨.Name x px, iter, [], 0⟩] scope gpos) X.env) Q' X.xe s := by
  have hdeep : X.A.depth < recursionLimit := by have := hr.dp; omega
  refine wpAny_GeneratorExp_walksQ hr.hd S.co (closure_ok S.free) S.cell S.dot S.loc S.kind hdeep (thn (hi.run pins s σ H _ I h) ?_) hs
  rintro xv u1 ⟨v, H1, I1, rv, a, xs, bs, rfl, hT, ⟨ps, hP, htr⟩, hlen, hR, hE⟩
  cases rv
  obtain ⟨its, hv, hit, hsz⟩ := I1.tuple hT
  have hEl := hE pins u1 its I1 hv
  have lits : its.length = bs.length := by rw [hlen, hv.length]
  have tP : u1.heap.get? P = some { cls := .none, data := .fields ps } := I1.hok P _ hP
  have aP : a ≠ P := by
    rintro rfl
    obtain ⟨oa, ea, _, na, da⟩ := hit
    rw [tP] at ea; cases ea; cases da
  have ltP : @LT.lt Nat _ P u1.heap.objs.size := Heap.lt_size tP
  have lta : @LT.lt Nat _ a u1.heap.objs.size := by
    obtain ⟨oa, ea, _⟩ := hit
    exact Heap.lt_size ea
  have itT : u1.heap.IsTuple a its.toArray := hit
  refine wpAny_pyIter_tuple itT ?_
  obtain ⟨nit, enit⟩ : ∃ n : Obj, n = { cls := .type "tuple_iterator", data := .fields #[.ref a, .int 0 0] } := ⟨_, rfl⟩
  rw [← enit]
  obtain ⟨J, eJ⟩ : ∃ n : Nat, n = u1.heap.objs.size := ⟨_, rfl⟩
  rw [← eJ]
  have szP : (u1.heap.push nit).objs.size = J + 1 := by rw [eJ]; exact Heap.size_push ..
  have stay : ∀ b o, u1.heap.get? b = some o → (u1.heap.push nit).get? b = some o := fun b o e => Heap.get?_push_of_some _ e
  have cdh : PySem.W.CodeHd (u1.heap.push nit) c P := TB.code.keeps fun b o e => stay b o (I1.bk b o e)
  have tP2 := stay P _ tP
  have nl2 : (u1.heap.push nit).NoLimit := I1.nolimit.push nit
  have aJ : a ≠ J := by
    show ¬ @Eq Nat a J
    omega
  have itJ : (u1.heap.push nit).IsTupleIter J a 0 := ⟨nit, by rw [eJ]; exact Heap.get?_push_size _ (by rw [enit]; rfl), by rw [enit], by rw [enit]; rfl⟩
  refine ⟨nl2, ?_⟩
  have rest : ∀ (code : Value) (h3 : Heap) (tk : Nat) (qs : Array Value), Heap.ExtBut P (u1.heap.push nit) h3 → (u1.heap.push nit).objs.size ≤ h3.objs.size → h3.get? P = some { cls := .none, data := .fields qs } → (∃ more, qs = ps ++ more) → TriplesOk qs.toList →
      wpAny (model X.prog X.w) X.A (builtinsFor X.env.globals X.env.builtins) (fun bi u4 => ∃ Ia fp wr n₀ Pf St₀ pz F, Value.ref J = .ref Ia ∧ (∀ B : Around, B.handled = none → Walks X.prog X.w B Ia fp wr n₀ Pf St₀) ∧ St₀ 0 u4.heap ∧ (∀ b ∈ fp, b < u4.heap.objs.size) ∧ u4.heap.NoLimit ∧ cStatics ∉ wr ∧
          (∀ href : Heap, (∀ b o, u4.heap.get? b = some o → href.get? b = some o) → QuietGen X.prog X.w (genEnv scope (cloFrom X.env.cells scope.names []) u4.heap.objs.size code bi X.env) x [] elt (List.range u4.heap.objs.size) wr Pf pz F href) ∧
          (∀ g h5 tk gs, gs.bare = true → u4.heap.objs.size < g → h5.objs.size = g + 1 → (∀ b o, u4.heap.get? b = some o → h5.get? b = some o) →
            WalksS X.prog X.w X.A.in4 g (g :: u4.heap.objs.size :: List.range u4.heap.objs.size) (u4.heap.objs.size :: wr) (GenOnlyQ u4.gens.size) (passing pz n₀ 0).length (fun j y => ∃ i, (passing pz n₀ 0)[j]? = some i ∧ F i y) (GenAt X.prog X.w X.A.in4 g u4.gens.size u4.heap.objs.size (List.range u4.heap.objs.size) wr pz n₀ F) →
            GenAt X.prog X.w X.A.in4 g u4.gens.size u4.heap.objs.size (List.range u4.heap.objs.size) wr pz n₀ F 0 { u4 with gens := u4.gens.push gs, toks := tk, heap := h5 } → Q' (.ref g) { u4 with gens := u4.gens.push gs, toks := tk, heap := h5 })) X.xe { u1 with heap := h3, toks := tk } := by
    intro code h3 tk qs hx hsz3 hP3 hmore htr3
    obtain ⟨bm, ob, k1, k2, k3, k4, k5, k6, k7, k8⟩ := TB.bm
    have csP : cStatics ≠ P := fun z => by
      obtain ⟨_, hns, _⟩ := I1.nolimit
      obtain ⟨o', es, ep, ho, hd, _⟩ := hns
      rw [z, tP] at ho
      cases ho; cases hd
    have csJ : @LT.lt Nat _ cStatics u1.heap.objs.size := by
      obtain ⟨_, hns, _⟩ := I1.nolimit
      exact hns.lt
    have sz3 : J + 1 ≤ (h3.objs.size : Nat) := by rw [← szP]; exact hsz3
    have up3 : ∀ b o, b ≠ P → u1.heap.get? b = some o → h3.get? b = some o := fun b o n e => hx b o n (stay b o e)
    refine wpAny_builtinsFor (m := X.mg) (by rw [I1.ok.glob]; exact ((I1.mod.glob.keeps I1.bk).push nit).extBut hx TB.gP) k1 k2 (up3 _ _ k4 (I1.bk _ _ k5)) k6 k7 k8 ?_
    refine ⟨J, [J, a], [J], its.toArray.size, fun i v => its.toArray[i]? = some v, fun i hh => hh.IsTupleIter J a i ∧ hh.IsTuple a its.toArray, (fun _ => true), (fun i y => y = .bool (bs.getD i false)), rfl, fun B hB => Walks.tuple hB J a aJ its.toArray, ?_, ?_, nl2.extBut hx csP, ?_, ?_, ?_⟩
    · exact ⟨itJ.extBut hx (by
        show ¬ @Eq Nat J P
        omega), itT.at fun o e => up3 a o aP e⟩
    · intro b hb
      show @LT.lt Nat _ b h3.objs.size
      simp only [List.mem_cons, List.not_mem_nil, or_false] at hb
      rcases hb with rfl | rfl <;> omega
    · simp only [List.mem_cons, List.not_mem_nil, or_false]
      show ¬ @Eq Nat cStatics J
      omega
    · intro href hhref
      refine ⟨fun B E' i v u2 m2 hB hPv hn hm hkp => ?_, fun B E' i v u2 m2 hB hPv hp hn hm hkp => ?_⟩
      · simp only [List.forIn_nil]
        exact wpAny_pure ⟨rfl, u2.heap, u2.toks, rfl, fun _ _ e => e⟩
      · refine hEl _ B E' i v u2 m2 rfl hn hm (by simpa using hPv) fun b o e nb => hkp b ?_ ?_ o (hhref b o (up3 b o nb e))
        · have lb : @LT.lt Nat _ b u1.heap.objs.size := Heap.lt_size e
          exact List.mem_range.mpr (by show @LT.lt Nat _ b h3.objs.size; omega)
        · have lb : @LT.lt Nat _ b u1.heap.objs.size := Heap.lt_size e
          simp only [List.mem_cons, List.not_mem_nil, or_false]
          show ¬ @Eq Nat b J
          omega
    · intro g h5 tk5 gs hgb hag hsz5 hk5 W5 hat
      simp only [GxR.passing_true, List.length_range] at W5
      rw [show its.toArray.size = bs.length from by rw [List.size_toArray, lits]] at W5 hat
      refine hQ H1 bs g _ hR ⟨_, _, _, _, _, W5.in4_1, hat, ?_, fun u' hm => ?_⟩
      · intro j y sj Qj Ej hy hQj
        obtain ⟨i, hij, rfl⟩ := hy
        obtain ⟨hj, ej⟩ := List.getElem?_eq_some_iff.mp hij
        rw [List.getElem_range] at ej
        subst ej
        exact wpAny_truthy_bool hQj
      · obtain ⟨more, em⟩ := hmore
        have out : ∀ b o, u1.heap.get? b = some o → b ∉ h3.objs.size :: [J] := fun b o e => by
          have lb : @LT.lt Nat _ b u1.heap.objs.size := Heap.lt_size e
          simp only [List.mem_cons, List.not_mem_nil, or_false]
          show ¬ (@Eq Nat b h3.objs.size ∨ @Eq Nat b J)
          omega
        have V := inv_tab (more := more) (h' := u'.heap) (g' := u'.gens) (d' := u'.drawn) (t' := u'.toks) I1 hP (fun b o nb e => hm.heap b o (out b o e) (hk5 b o (up3 b o nb e))) (by rw [← em]; exact hm.heap P _ (out P _ tP) (hk5 P _ hP3)) (AllBare.movedS (I1.bare.push hgb) hm)
        rw [sh_eta u1 u' hm.os] at V
        exact ⟨upd H1 P (.tbl (ps ++ more)), ⟨ps, more, hP, htr, upd_same, by rw [← em]; exact htr3, fun b nb => upd_ne nb⟩, V⟩
  cases hf : codeAmong gpos ps.toList with
  | some cv =>
    refine wpAny_genexprCode_hit hcode (cdh.code tP2 htr) hf ?_
    exact rest cv (u1.heap.push nit) u1.toks ps (Heap.ExtBut.refl _ _) (Nat.le_refl _) tP2 ⟨#[], by simp⟩ htr
  | none =>
    refine wpAny_genexprCodeX hcode (cdh.code tP2 htr) (cdh.tab tP2) hf fun c' h' tk hx hge hlt hco' _ htab' _ => ?_
    have ht9 : TriplesOk (ps ++ #[rawInt gpos.line, rawInt gpos.col, .ref c']).toList := by
      obtain ⟨o1, vs, f1, tf, fl, tg, inF, tx, tt, op, _, _, _, _, _, _, _, _, _, z, _⟩ := hco'
      exact z
    exact rest _ h' tk _ hx (Nat.le_trans hge (Nat.le_of_lt hlt)) htab'.2 ⟨_, rfl⟩ ht9
/-- the tests' own eval -/
theorem elt_ge {g : GE} {scope : Scope} {x : Str} {Y : Sys S} {O : Addr → Prop} {l : List W} {xs : List V} {bs : List Bool} {P : Addr} {ps : Array Value} {its : List Value} (hk : scope.kind = .function) (hl : scope.names.lookup x = some .local) (hd : (x == ("__debug__" : Str)) = false) (hK : Y.K = X.K)
    (ht : tstAll g l = some bs) (hr : Reps Y O H l xs) (I : Inv X pins σ H s) (hv : Vals xs its) (tP : H P = some (.tbl ps)) : EltQ X.prog X.w scope x (g.ast x) its s.heap P bs := by
  intro cenv B E' i v u m hsc hn hm hi keep
  obtain ⟨w, x0, ew, ex, rw0⟩ : ∃ w x0, l[i]? = some w ∧ xs[i]? = some x0 ∧ Rep Y O H w x0 := by
    have li : i < its.length := by
      rcases Nat.lt_or_ge i its.length with z | z
      · exact z
      · rw [List.getElem?_eq_none z] at hi; cases hi
    have lx : i < xs.length := by rw [hv.length]; exact li
    obtain ⟨w, e1, e2⟩ := hr.get (List.getElem?_eq_getElem lx)
    exact ⟨w, _, e1, List.getElem?_eq_getElem lx, e2⟩
  have hb := tstAll_get ht i w ew
  obtain ⟨v', ev, rv⟩ := hv.get ex
  rw [hi] at ev
  cases ev
  have name : ∀ {p : Pos} {u : Shared} {Q : Value → Shared → Prop}, u.heap.Ns cenv.locals m → Q v u → wpAny (model X.prog X.w) B (eval (.Name x p) cenv) Q E' u := fun hn q =>
    wpAny_Name (wpAny_loadName_local (by rw [hsc]; exact hk) (show cenv.scope.names.lookup x = some .local by rw [hsc]; exact hl) hn hm q) hd
  generalize bs.getD i false = b at hb ⊢
  cases g with
  | ne0 p1 k p2 p3 =>
    cases w <;> simp only [GE.tst, Option.some.injEq] at hb <;> try cases hb
    rename_i n
    cases rw0
    obtain ⟨t, rfl⟩ := rv
    refine wpAny_Compare1 (name hn ?_)
    refine wpAny_Constant_int ?_
    exact PyProof.Rows.ne_int ⟨rfl, u.heap, u.toks + 1, rfl, fun _ _ e => e⟩
  | gt0 p1 k1 p2 p3 k2 p4 p5 =>
    cases w with
    | tup l0 =>
      obtain ⟨ta, tvs, rfl, tq, tr⟩ := rw0
      cases rv
      cases l0 with
      | nil => simp [GE.tst] at hb
      | cons w1 l1 =>
        cases w1 <;> simp only [GE.tst, Option.some.injEq] at hb <;> try cases hb
        rename_i n
        obtain ⟨v1, vr, rfl, hv1, _⟩ := tr
        cases hv1
        rw [hK] at tq
        obtain ⟨jt, jv, jtup, _⟩ := I.tuple tq
        obtain ⟨j1, e1, r1⟩ := jv.get (i := 0) (x := V.int n) rfl
        obtain ⟨t1, rfl⟩ := r1
        have tne : ta ≠ P := by
          rintro rfl
          obtain ⟨oa, ea, _, na, da⟩ := jtup
          have := I.hok ta _ tP
          rw [show s.heap.get? ta = some { cls := .none, data := .fields ps } from this] at ea
          cases ea; cases da
        have jtup2 : IsTup u.heap ta jt.toArray := by
          obtain ⟨oa, ea, r⟩ := jtup
          exact ⟨oa, keep ta oa ea tne, r⟩
        refine wpAny_Compare1 (wpAny_Subscript_Constant_late (name hn ?_))
        refine wpAny_Constant_int ?_
        refine ⟨"tuple", _, _root_.RT.get_tuple, IsTup.typeIs jtup2, ?_⟩
        have z0 : seqIndex? 0 jt.toArray.size = some 0 := by
          unfold seqIndex?
          cases jt with
          | nil => cases e1
          | cons _ _ => simp
        refine getItem_tuple jtup2 (by decide) (by decide) z0 (by simpa using e1) ?_
        refine wpAny_Constant_int ?_
        exact PyProof.Rows.gt_int ⟨rfl, u.heap, _, rfl, fun _ _ e => e⟩
    | _ => simp [GE.tst] at hb
/-- any(test for x in e), all(..) -/
def tGen (K : PySem.W.Frag) (X : Cx) (x : Str) (P : Addr) (scope : Scope) (elt : Expr) (any_ : Bool) (te : TE) : TE := fun σ H Q => te σ H fun v H1 => ∃ (a : Addr) (xs : List V) (bs : List Bool), v = .ref a ∧ SqT K H1 a xs ∧ TabG H1 P ∧ bs.length = xs.length ∧ (∀ H2, Tabd P H1 H2 → Q (.bl (if any_ then bs.any id else bs.all id)) H2) ∧
  ∀ pins u its, Inv X pins σ H1 u → Vals xs its → EltQ X.prog X.w scope x elt its u.heap P bs
theorem getD_range (bs : List Bool) : (List.range bs.length).map (fun j => bs.getD j false) = bs := by
  apply List.ext_getElem?
  intro j
  rw [List.getElem?_map]
  rcases Nat.lt_or_ge j bs.length with z | z
  · rw [List.getElem?_range z]
    simp [List.getD_eq_getElem?_getD, List.getElem?_eq_getElem z]
  · rw [List.getElem?_eq_none (by simpa using z), List.getElem?_eq_none z]; rfl
theorem any_getD (bs : List Bool) : (List.range bs.length).any (fun j => bs.getD j false) = bs.any id := by
  conv => rhs; rw [← getD_range bs]
  rw [List.any_map]; rfl
theorem all_getD (bs : List Bool) : (List.range bs.length).all (fun j => bs.getD j false) = bs.all id := by
  conv => rhs; rw [← getD_range bs]
  rw [List.all_map]; rfl
theorem pe_gen {c P : Addr} {elt iter : Expr} {x : Str} {px p pos gpos : Pos} {scope : Scope} {te : TE} {k : Nat} {any_ : Bool}
    (hr : Room k X.A) (hg : Gl X (if any_ then "any" else "all")) (hm : X.mg (if any_ then "any" else "all") = none) (TB : TabB X.base X.mg c P) (hcode : X.env.code = .ref c) (S : GenS X.env scope x) (hi : PE X iter te) (hs : ∀ v, genFold iter X.env v = pure v) :
    PE X (.Call (.Name (if any_ then "any" else "all") p) [.GeneratorExp elt [⟨.Name x px, iter, [], 0⟩] scope gpos] [] pos) (tGen X.K X x P scope elt any_ te) := by
  have hst : starEach [.GeneratorExp elt [⟨.Name x px, iter, [], 0⟩] scope gpos] X.env = (false, eval (.GeneratorExp elt [⟨.Name x px, iter, [], 0⟩] scope gpos) X.env) :: starEach [] X.env := by rfl
  refine ⟨fun pins s σ H Q I h => ?_⟩
  have main : ∀ Q' : Value → Shared → Prop, (∀ H1 bs g u, (∀ H2, Tabd P H1 H2 → Q (.bl (if any_ then bs.any id else bs.all id)) H2) → ReadyT X pins σ H1 P bs g u → Q' (.ref g) u) → wpAny (model X.prog X.w) X.A (eval (.GeneratorExp elt [⟨.Name x px, iter, [], 0⟩] scope gpos) X.env) Q' X.xe s := fun Q' hQ' =>
    gen_run (R := fun H1 bs => ∀ H2, Tabd P H1 H2 → Q (.bl (if any_ then bs.any id else bs.all id)) H2) hr TB hcode S hi hs I h hQ'
  cases any_ with
  | true =>
    refine wpAny_Call_Name_kw (ld_blt I hg hm boot_any ?_)
    refine PyProof.Rows.callWith_builtin1 ?_ hst (by rfl)
    rw [hst]
    show wpAny _ _ (spliced ((false, eval (.GeneratorExp elt [⟨.Name x px, iter, [], 0⟩] scope gpos) X.env) :: backTo pos (starEach [] X.env))) _ _ s
    refine Calls.spliced_cons (main _ fun H1 bs g u hQ ⟨fp, wr, G, F, At, W, h0, htr, hI⟩ => Calls.spliced_nil ?_)
    refine call_any_walkS (W.self 0 _ _ _ h0 ⟨g, fp, wr, G, _, F, At, _, rfl, W, h0, htr, fun u' mv => ?_⟩)
    obtain ⟨H2, hT, V⟩ := hI u' mv
    exact ⟨.bl _, H2, V, rfl, by rw [any_getD]; exact hQ H2 hT⟩
  | false =>
    refine wpAny_Call_Name_kw (ld_blt I hg hm (show bootBuiltins "all" = some (.builtin "all") from by rfl) ?_)
    refine PyProof.Rows.callWith_builtin1 ?_ hst (by rfl)
    rw [hst]
    show wpAny _ _ (spliced ((false, eval (.GeneratorExp elt [⟨.Name x px, iter, [], 0⟩] scope gpos) X.env) :: backTo pos (starEach [] X.env))) _ _ s
    refine Calls.spliced_cons (main _ fun H1 bs g u hQ ⟨fp, wr, G, F, At, W, h0, htr, hI⟩ => Calls.spliced_nil ?_)
    refine call_all_walkS (W.self 0 _ _ _ h0 ⟨g, fp, wr, G, _, F, At, _, rfl, W, h0, htr, fun u' mv => ?_⟩)
    obtain ⟨H2, hT, V⟩ := hI u' mv
    exact ⟨.bl _, H2, V, rfl, by rw [all_getD]; exact hQ H2 hT⟩
end
end MP

/-! ZM: zip of two that may be lists or tuples, each. -/
namespace MP
open PySem PySem.Spec PyProof.Rows L2

/-- t: a tuple stands at a; else a list -/
def SqB (K : PySem.W.Frag) (t : Bool) (H : Hp) (a : Addr) (xs : List V) : Prop := if t = true then SqT K H a xs else SqL K H a xs
def ItB (t : Bool) (h : Heap) (it a : Addr) (i : Nat) : Prop := if t = true then h.IsTupleIter it a i else h.IsListIter it a i
def ObB (t : Bool) (h : Heap) (a : Addr) (its : Array Value) : Prop := if t = true then h.IsTuple a its else h.IsList a its
theorem drawsB {prog : Program} {w : World} {B : Around} (t : Bool) (hh : B.handled = none) (it a : Addr) (ne : a ≠ it) (its : Array Value) : Draws prog w B it [it, a] its.size (fun i v => its[i]? = some v) (fun i h => ItB t h it a i ∧ ObB t h a its) := by
  cases t with
  | true => exact Draws.tuple hh it a ne its
  | false => exact Draws.list hh it a ne its
/-- the same from its i-th item on -/
theorem drawsS {prog : Program} {w : World} {B : Around} (t : Bool) (hh : B.handled = none) (it a : Addr) (ne : a ≠ it) (its : Array Value) (i : Nat) : Draws prog w B it [it, a] (its.size - i) (fun j v => its[i + j]? = some v) (fun j h => ItB t h it a (i + j) ∧ ObB t h a its) where
  live := fun j h st => (drawsB (prog := prog) (w := w) t hh it a ne its).live (i + j) h st
  frame := fun j h h' st k => (drawsB (prog := prog) (w := w) t hh it a ne its).frame (i + j) h h' st k
  item := fun j s Q E hj st hQ => (drawsB t hh it a ne its).item (i + j) s Q E (by omega) st hQ
  done := fun s Q E st hE => by
    have out : its[i + (its.size - i)]? = none := by
      rw [Array.getElem?_eq_none_iff]; omega
    cases t with
    | true => exact wpAny_nextOf_tuple_end hh st.1 st.2 out hE
    | false => exact wpAny_nextOf_list_end hh st.1 st.2 out hE
theorem itB_some {t : Bool} {h : Heap} {it a : Addr} {i : Nat} (x : ItB t h it a i) : ∃ o, h.get? it = some o ∧ ∀ v, o.data ≠ .cell v := by
  cases t with
  | true =>
    obtain ⟨o, e, _, d⟩ := (show h.IsTupleIter it a i from x)
    exact ⟨o, e, fun v q => by rw [d] at q; cases q⟩
  | false =>
    obtain ⟨o, e, _, d⟩ := (show h.IsListIter it a i from x)
    exact ⟨o, e, fun v q => by rw [d] at q; cases q⟩
theorem itB_at {t : Bool} {h h' : Heap} {it a : Addr} {i : Nat} (x : ItB t h it a i) (k : ∀ o, h.get? it = some o → h'.get? it = some o) : ItB t h' it a i := by
  cases t with
  | true => exact (show h.IsTupleIter it a i from x).at k
  | false => exact (show h.IsListIter it a i from x).at k
section
variable {X : Cx} {pins : List (Addr × Obj)} {σ : L2.St} {H : Hp} {s : Shared} {t : Bool} {a : Addr} {xs ys : List V}
theorem sqB_ob (I : Inv X pins σ H s) (q : SqB X.K t H a xs) : ∃ its : List Value, Vals xs its ∧ ObB t s.heap a its.toArray ∧ a < s.heap.objs.size := by
  cases t with
  | true =>
    obtain ⟨its, r, p, _⟩ := I.tuple (show SqT X.K H a xs from q)
    obtain ⟨o, e, _⟩ := id p
    exact ⟨its, r, p, Heap.lt_size e⟩
  | false =>
    obtain ⟨its, r, p, _⟩ := I.list (show SqL X.K H a xs from q)
    exact ⟨its, r, p.isList, p.lt⟩
theorem sqB_inj (I : Inv X pins σ H s) (q : SqB X.K t H a xs) (q' : SqB X.K t H a ys) : xs = ys := by
  cases t with
  | true => exact I.tuple_inj (show SqT X.K H a xs from q) q'
  | false => exact I.list_inj (show SqL X.K H a xs from q) q'
end
/-- the two as they stand at each turn, the items in new pairs -/
def ItzB (K : PySem.W.Frag) (t u : Bool) (a b : Addr) : It where
  go := fun i H => ∃ (xs ys : List V) (x y : V), SqB K t H a xs ∧ SqB K u H b ys ∧ xs[i]? = some x ∧ ys[i]? = some y
  yld := fun i H v H' => ∃ T x y, v = .ref T ∧ H T = none ∧ H' = upd H T (.tup [x, y]) ∧ (∀ xs, SqB K t H a xs → xs[i]? = some x) ∧ ∀ ys, SqB K u H b ys → ys[i]? = some y
  stop := fun i H => ∃ xs ys : List V, SqB K t H a xs ∧ SqB K u H b ys ∧ (xs.length ≤ i ∨ ys.length ≤ i)
theorem sep_of {z TI TO i1 i2 l1 l2 : Addr} (D : ZipApart z TI TO i1 i2 l1 l2) (n1 : l1 ≠ i2) (n2 : l2 ≠ i1) : ZipSep2 z TI TO i1 i2 [i1, l1] [i2, l2] where
  TIz := D.TIz
  TOz := D.TOz
  TITO := D.TITO
  TIi1 := D.TIi1
  mem1 := by simp
  zf1 := by simp [D.i1z.symm, D.l1z.symm]
  Tf1 := by simp [D.TOi1, D.l1TO.symm]
  TIi2 := D.TIi2
  mem2 := by simp
  zf2 := by simp [D.i2z.symm, D.l2z.symm]
  Tf2 := by simp [D.TOi2, D.l2TO.symm]
  sep1_2 := by simp [D.i12, n2.symm]
  sep2_1 := by simp [D.i12.symm, n1.symm]
theorem turn_zipB {P : Program} {w : World} {K : PySem.W.Frag} {elts : List Expr} {kk : Nat} {tpos : Pos} {t u : Bool} {a b z TI TO i1 i2 : Addr} (D : ZipApart z TI TO i1 i2 a b) :
    Turn P w K (.Tuple elts kk tpos) (ItzB K t u a b) [z, TI, TO, i1, i2] z (fun i h => IsZip h z TI TO .none ∧ IsPair h TI (.ref i1) (.ref i2) ∧ (∃ x y, IsPair h TO x y) ∧ ItB t h i1 a i ∧ ItB u h i2 b i) where
  mem := by simp
  obj := fun i h ⟨hz, hI, ⟨x, y, hO⟩, m1, m2⟩ c hc => by
    simp only [List.mem_cons, List.not_mem_nil, or_false] at hc
    rcases hc with rfl | rfl | rfl | rfl | rfl
    · exact ⟨_, hz, fun _ q => by cases q⟩
    · exact ⟨_, hI, fun _ q => by cases q⟩
    · exact ⟨_, hO, fun _ q => by cases q⟩
    · exact itB_some m1
    · exact itB_some m2
  keep := fun i h h' ⟨hz, hI, ⟨x, y, hO⟩, m1, m2⟩ k => ⟨k z (by simp) _ hz, k TI (by simp) _ hI, ⟨x, y, k TO (by simp) _ hO⟩, itB_at m1 (k i1 (by simp)), itB_at m2 (k i2 (by simp))⟩
  item := by
    rintro X rfl rfl rfl hc i pins s σ H E I hf ⟨hz, hI, ⟨x0, y0, hO⟩, m1, m2⟩ ⟨xs, ys, x, y, qx, qy, ex, ey⟩
    obtain ⟨js, jv, jo, _⟩ := sqB_ob I qx
    obtain ⟨ks, kv, ko, _⟩ := sqB_ob I qy
    obtain ⟨e1, he1, re1⟩ := jv.get ex
    obtain ⟨e2, he2, re2⟩ := kv.get ey
    have hh : X.A.in1.handled = none := I.ok.hd hc
    have len1 : i < js.toArray.size := by
      rw [List.size_toArray]
      rcases Nat.lt_or_ge i js.length with q | q
      · exact q
      · rw [List.getElem?_eq_none q] at he1; cases he1
    have len2 : i < ks.toArray.size := by
      rw [List.size_toArray]
      rcases Nat.lt_or_ge i ks.length with q | q
      · exact q
      · rw [List.getElem?_eq_none q] at he2; cases he2
    have zl : z < s.heap.objs.size := Heap.lt_size hz
    refine wpAny_pyNext_zipD2_item (sep_of D D.l1i2 D.l2i1) (drawsB t hh i1 a D.l1i1 js.toArray) (drawsB u hh i2 b D.l2i2 ks.toArray) hz hI hO ⟨m1, jo⟩ ⟨m2, ko⟩ len1 len2 fun v1 v2 h' tk g1 g2 z' O' n1 n2 hT hsz hk => ?_
    obtain rfl : v1 = e1 := by
      have : js.toArray[i]? = some e1 := by simpa using he1
      rw [this] at g1; cases g1; rfl
    obtain rfl : v2 = e2 := by
      have : ks.toArray[i]? = some e2 := by simpa using he2
      rw [this] at g2; cases g2; rfl
    refine ⟨_, rfl, wpAny_letOwnedTupleGo_zip (s := { s with heap := h', toks := tk }) z' fun h'' z'' sb => ?_⟩
    have pT : h''.get? s.heap.objs.size = some { cls := .type "tuple", data := .seq #[v1, v2] } := (sb.2 _ (Nat.ne_of_gt zl)).trans hT
    have newT : ObjOk X.prog X.w (upd H s.heap.objs.size (.tup [x, y])) h'' s.heap.objs.size (.tup [x, y]) :=
      ⟨show 2 ≤ sizeLine from by decide, [v1, v2], .cons re1 (.cons re2 .nil), ⟨_, pT, rfl, _, rfl⟩⟩
    have J : Inv X pins σ (upd H s.heap.objs.size (.tup [x, y])) { s with heap := h'', toks := tk } :=
      I.turnedNew (t' := tk) (ch := [z, TI, TO, i1, i2]) (fun c o nc q => by
        simp only [List.mem_cons, List.not_mem_nil, or_false, not_or] at nc
        exact (sb.2 c nc.1).trans (hk c o nc.1 nc.2.2.1 nc.2.2.2.1 nc.2.2.2.2 q)) hf (Nat.le_refl _) newT
    refine ⟨.ref s.heap.objs.size, _, J, rfl, ⟨_, x, y, rfl, I.hok.fresh (Nat.le_refl _), rfl, fun l hl => by rw [sqB_inj I hl qx]; exact ex, fun l hl => by rw [sqB_inj I hl qy]; exact ey⟩, ⟨z'', ?_, ⟨v1, v2, ?_⟩, ?_, ?_⟩, fun c hcm => ?_⟩
    · exact (sb.2 _ D.TIz).trans (hk _ _ D.TIz D.TITO D.TIi1 D.TIi2 hI)
    · exact (sb.2 _ D.TOz).trans O'
    · exact itB_at n1.1 fun o q => (sb.2 _ D.i1z).trans q
    · exact itB_at n2.1 fun o q => (sb.2 _ D.i2z).trans q
    · have cl : c < s.heap.objs.size := by
        simp only [List.mem_cons, List.not_mem_nil, or_false] at hcm
        rcases hcm with rfl | rfl | rfl | rfl | rfl
        · exact zl
        · exact Heap.lt_size hI
        · exact Heap.lt_size hO
        · obtain ⟨_, e, _⟩ := itB_some m1; exact Heap.lt_size e
        · obtain ⟨_, e, _⟩ := itB_some m2; exact Heap.lt_size e
      rw [upd_ne (Nat.ne_of_lt cl)]
      exact (hf c hcm).1
  done := by
    rintro X rfl rfl rfl hc i pins s σ H E I hf ⟨hz, hI, ⟨x0, y0, hO⟩, m1, m2⟩ ⟨xs, ys, qx, qy, hend⟩
    obtain ⟨js, jv, jo, _⟩ := sqB_ob I qx
    obtain ⟨ks, kv, ko, _⟩ := sqB_ob I qy
    have hh : X.A.in1.handled = none := I.ok.hd hc
    have c1 : js.toArray.size = xs.length := by rw [List.size_toArray, jv.length]
    have c2 : ks.toArray.size = ys.length := by rw [List.size_toArray, kv.length]
    refine wpAny_pyNext_zipD2_end (i := 0) (sep_of D D.l1i2 D.l2i1) (drawsS t hh i1 a D.l1i1 js.toArray i) (drawsS u hh i2 b D.l2i2 ks.toArray i) hz hI hO ⟨m1, jo⟩ ⟨m2, ko⟩ (Nat.zero_le _) (Nat.zero_le _) (by omega) fun h' tk hk => ⟨rfl, ?_⟩
    exact I.turnedL (t' := tk) (ch := [z, TI, TO, i1, i2]) (fun c o nc q => by
      simp only [List.mem_cons, List.not_mem_nil, or_false, not_or] at nc
      exact hk c o nc.1 nc.2.2.1 nc.2.2.2.1 nc.2.2.2.2 q) hf
  self := fun B i s Q E st h => wpAny_pyIter_zip st.1 h
def itObj (t : Bool) (a : Addr) : Obj := { cls := .type (if t = true then "tuple_iterator" else "list_iterator"), data := .fields #[.ref a, .int 0 0] }
theorem beginsB (t : Bool) (a : Addr) (its : Array Value) : Begins (.ref a) (itObj t a) fun h => ObB t h a its := by
  cases t with
  | true => exact begins_tuple a its
  | false => exact begins_list a its
theorem itB_zero {t : Bool} {h : Heap} {it a : Addr} (e : h.get? it = some (itObj t a)) : ItB t h it a 0 := by
  cases t with
  | true => exact ⟨_, e, rfl, rfl⟩
  | false => exact ⟨_, e, rfl, rfl⟩
def iZipB (K : PySem.W.Frag) (ta : TA) : TI := fun σ H R => ta σ H fun vs H1 => ∃ (t u : Bool) (a b : Addr) (xs ys : List V), vs = [.ref a, .ref b] ∧ SqB K t H1 a xs ∧ SqB K u H1 b ys ∧ R (ItzB K t u a b) H1
theorem pi_zipB {X : Cx} {e e2 : Expr} {ta : TA} {p pos tpos : Pos} {elts : List Expr} {kk : Nat} (hg : Gl X "zip") (hm : X.mg "zip" = none) (ha : PA X [e, e2] ta)
    (hs : starEach [e, e2] X.env = (false, eval e X.env) :: starEach [e2] X.env := by rfl) (hpl : (backTo pos (starEach [e2] X.env)).any (·.1) = false := by rfl) : PI X (.Tuple elts kk tpos) (.Call (.Name "zip" p) [e, e2] [] pos) (iZipB X.K ta) := by
  refine ⟨fun pins s σ H R I h => ?_⟩
  refine Call_ (ld_blt I hg hm PyProof.Rows.boot_zip (PyProof.Rows.callWith_type1 (thn (ha.run pos pins s σ H _ I h) ?_) hs hpl))
  rintro us u1 ⟨vs, H1, J, rv, t, u, a, b, xs, ys, rfl, qa, qb, hR⟩
  obtain ⟨va, vr, rfl, ra, rr⟩ : ∃ va vr, us = va :: vr ∧ RelV (.ref a) va ∧ Vals [.ref b] vr := by cases rv with | cons r q => exact ⟨_, _, rfl, r, q⟩
  obtain ⟨vb, rfl, rb⟩ : ∃ vb, vr = [vb] ∧ RelV (.ref b) vb := by
    cases rr with
    | cons r q => cases q; exact ⟨_, rfl, r⟩
  cases ra
  cases rb
  obtain ⟨js, _, jo, la⟩ := sqB_ob J qa
  obtain ⟨ks, _, ko, lb⟩ := sqB_ob J qb
  refine zip_begins2 (beginsB t a js.toArray) (beginsB u b ks.toArray) jo ko fun h' hz hI hO m1 m2 hsz hk => wpAny_pyIter_zip hz ?_
  have J' : Inv X pins σ H1 { u1 with heap := h' } := J.kept (t' := u1.toks) hk
  refine ⟨u1.heap.objs.size + 4, [u1.heap.objs.size + 4, u1.heap.objs.size + 2, u1.heap.objs.size + 3, u1.heap.objs.size, u1.heap.objs.size + 1], _, ItzB X.K t u a b, H1, rfl, J', turn_zipB (PySem.W.ktu_apart u1.heap.objs.size a b la lb), ⟨hz, hI, ⟨_, _, hO⟩, itB_zero m1, itB_zero m2⟩, fun c hcm => ?_, hR⟩
  have up : u1.heap.objs.size ≤ c := by
    simp only [List.mem_cons, List.not_mem_nil, or_false] at hcm
    rcases hcm with rfl | rfl | rfl | rfl | rfl
    · exact Nat.le_add_right _ 4
    · exact Nat.le_add_right _ 2
    · exact Nat.le_add_right _ 3
    · exact Nat.le_refl _
    · exact Nat.le_add_right _ 1
  exact J.fpOk up (J.hok.fresh up)
end MP

/-! MP2: the small syntax, its evaluator. -/
namespace MP
open PySem PySem.Spec PyProof.Rows L2

/-! ### the small syntax -/
mutual
inductive IE where
  | var (i : Nat) (x : Str) (p : Pos)
  | cst (c : Const) (k : Nat) (p : Pos)
  | glob (x : Str) (p : Pos)
  | bin (a : IE) (op : Operator) (b : IE) (p : Pos)
  | neg (a : IE) (p : Pos)
  | not (a : IE) (p : Pos)
  | boolop (op : BoolOp) (es : IEs) (p : Pos)
  | cmp (a : IE) (op : CmpOp) (b : IE) (p : Pos)
  | chain (a : IE) (o1 : CmpOp) (b : IE) (o2 : CmpOp) (c : IE) (p : Pos)
  | ifx (c a b : IE) (p : Pos)
  | call (f : Str) (es : IEs) (pf p : Pos)
  | bcall (f : Str) (es : IEs) (pf p : Pos)
  | isinst (e : IE) (T : Str) (pf pT p : Pos)
  | idx (a b : IE) (p : Pos)
  | slice (a : IE) (lo hi : IO) (ps p : Pos)
  | revsl (a : IE) (k : Nat) (p1 p2 p3 p : Pos)
  | tup (es : IEs) (k : Nat) (p : Pos)
  | lst (es : IEs) (p : Pos)
  | lc (elt : IE) (tg : IT) (it : II) (ifs : IO) (sc : Scope) (own : List (Str × Nat)) (p : Pos)
  | gen (any_ : Bool) (g : GE) (x : Str) (it : IE) (sc : Scope) (px pf pg p : Pos)
  | lc2 (elt : IE) (tg : IT) (it : II) (ifs : IO) (tg1 : IT) (it1 : II) (ifs1 : IO) (sc : Scope) (own : List (Str × Nat)) (vs1 : List Nat) (p : Pos)
inductive IEs where
  | nil
  | cons (e : IE) (es : IEs)
inductive IO where
  | none
  | some (e : IE)
inductive IT where
  | name (i : Nat) (x : Str) (p : Pos)
  | tup (ts : ITs) (k : Nat) (p : Pos)
inductive ITs where
  | nil
  | cons (t : IT) (ts : ITs)
inductive II where
  | seq (e : IE)
  | range (es : IEs) (pf p : Pos)
  | zip (a b : IE) (pf p : Pos)
  | enum (e : IE) (pf p : Pos)
  | rev (e : IE) (pf p : Pos)
end

mutual
inductive IS where
  | asg (tg : IT) (e : IE) (esc : List Nat) (own : Bool) (p : Pos)
  | par (xs : List (Nat × Str × Pos)) (kt : Nat) (pt : Pos) (es : IEs) (k2 : Nat) (pt2 : Pos) (esc : List Nat) (p : Pos)
  | setlc (i : Nat) (x : Str) (px : Pos) (e : IE) (esc : List Nat) (own : Bool) (p : Pos)
  | aug (i : Nat) (x : Str) (px : Pos) (op : Operator) (e : IE) (esc : List Nat) (p : Pos)
  | setix (i : Nat) (x : Str) (px : Pos) (ix : IE) (tp : Pos) (e : IE) (esc : List Nat) (p : Pos)
  | set2 (i : Nat) (x : Str) (p1 : Pos) (i1 : IE) (t1 p2 : Pos) (i2 : IE) (t2 : Pos) (k : Nat) (pt : Pos) (e : IE) (esc : List Nat) (p : Pos)
  | app (i : Nat) (x : Str) (px pa pc : Pos) (e : IE) (esc : List Nat) (p : Pos)
  | ins (i : Nat) (x : Str) (px pa pc : Pos) (k e : IE) (esc : List Nat) (p : Pos)
  | ret (e : IE) (esc : List Nat) (p : Pos)
  | retn (p : Pos)
  | ite (c : IE) (a b : ISs) (esc : List Nat) (p : Pos)
  | whl (c : IE) (b : ISs) (esc : List Nat) (wp : List Nat) (p : Pos)
  | for_ (tg : IT) (it : II) (b : ISs) (esc : List Nat) (wp : List Nat) (p : Pos)
  | brk (p : Pos)
  | cnt (p : Pos)
  | pass (p : Pos)
inductive ISs where
  | nil
  | cons (s : IS) (ss : ISs)
end

/-! ### back to the program's own syntax -/
def rangeS : Str := "range"
mutual
def IE.ast : IE → Expr
  | .var _ x p => .Name x p
  | .cst c k p => .Constant c k p
  | .glob x p => .Name x p
  | .bin a op b p => .BinOp a.ast op b.ast p
  | .neg a p => .UnaryOp .USub a.ast p
  | .not a p => .UnaryOp .Not a.ast p
  | .boolop op es p => .BoolOp op es.ast p
  | .cmp a op b p => .Compare a.ast [op] [b.ast] p
  | .chain a o1 b o2 c p => .Compare a.ast [o1, o2] [b.ast, c.ast] p
  | .ifx c a b p => .IfExp c.ast a.ast b.ast p
  | .call f es pf p => .Call (.Name f pf) es.ast [] p
  | .bcall f es pf p => .Call (.Name f pf) es.ast [] p
  | .isinst e T pf pT p => .Call (.Name "isinstance" pf) [e.ast, .Name T pT] [] p
  | .idx a b p => .Subscript a.ast b.ast p
  | .slice a lo hi ps p => .Subscript a.ast (.Slice lo.ast hi.ast none ps) p
  | .revsl a k p1 p2 p3 p => .Subscript a.ast (.Slice none none (some (.UnaryOp .USub (.Constant (.int 1) k p1) p2)) p3) p
  | .tup es k p => .Tuple es.ast k p
  | .lst es p => .List es.ast p
  | .lc elt tg it ifs sc _ p => .ListComp elt.ast [⟨tg.ast, it.ast, ifs.asts, 0⟩] sc p
  | .gen any_ g x it sc px pf pg p => .Call (.Name (if any_ then "any" else "all") pf) [.GeneratorExp (g.ast x) [⟨.Name x px, it.ast, [], 0⟩] sc pg] [] p
  | .lc2 elt tg it ifs tg1 it1 ifs1 sc _ _ p => .ListComp elt.ast [⟨tg.ast, it.ast, ifs.asts, 0⟩, ⟨tg1.ast, it1.ast, ifs1.asts, 0⟩] sc p
def IEs.ast : IEs → List Expr
  | .nil => []
  | .cons e es => e.ast :: es.ast
def IO.ast : IO → Option Expr
  | .none => Option.none
  | .some e => Option.some e.ast
def IO.asts : IO → List Expr
  | .none => []
  | .some e => [e.ast]
def IT.ast : IT → Expr
  | .name _ x p => .Name x p
  | .tup ts k p => .Tuple ts.ast k p
def ITs.ast : ITs → List Expr
  | .nil => []
  | .cons t ts => t.ast :: ts.ast
def II.ast : II → Expr
  | .seq e => e.ast
  | .range es pf p => .Call (.Name "range" pf) es.ast [] p
  | .zip a b pf p => .Call (.Name "zip" pf) [a.ast, b.ast] [] p
  | .enum e pf p => .Call (.Name "enumerate" pf) [e.ast] [] p
  | .rev e pf p => .Call (.Name "reversed" pf) [e.ast] [] p
end
mutual
def IS.ast : IS → Stmt
  | .asg tg e _ _ p => .Assign [tg.ast] e.ast p
  | .par xs kt pt es k2 pt2 _ p => .Assign [.Tuple (xs.map fun t => .Name t.2.1 t.2.2) kt pt] (.Tuple es.ast k2 pt2) p
  | .setlc _ x px e _ _ p => .Assign [.Name x px] e.ast p
  | .aug _ x px op e _ p => .AugAssign (.Name x px) op e.ast p
  | .setix _ x px ix tp e _ p => .Assign [.Subscript (.Name x px) ix.ast tp] e.ast p
  | .set2 _ x p1 i1 t1 p2 i2 t2 k pt e _ p => .Assign [.Tuple [.Subscript (.Name x p1) i1.ast t1, .Subscript (.Name x p2) i2.ast t2] k pt] e.ast p
  | .app _ x px pa pc e _ p => .Expr (.Call (.Attribute (.Name x px) "append" pa) [e.ast] [] pc) p
  | .ins _ x px pa pc k e _ p => .Expr (.Call (.Attribute (.Name x px) "insert" pa) [k.ast, e.ast] [] pc) p
  | .ret e _ p => .Return (some e.ast) p
  | .retn p => .Return none p
  | .ite c a b _ p => .If c.ast a.ast b.ast p
  | .whl c b _ _ p => .While c.ast b.ast [] p
  | .for_ tg it b _ _ p => .For tg.ast it.ast b.ast [] p
  | .brk p => .Break p
  | .cnt p => .Continue p
  | .pass p => .Pass p
def ISs.ast : ISs → List Stmt
  | .nil => []
  | .cons s ss => s.ast :: ss.ast
end

/-! ### operations on values -/
mutual
def toD : W → PyData
  | .non => .none
  | .bl b => .bool b
  | .int i => .int i
  | .str s => .str s
  | .tup l => .tuple (toDs l)
  | .lst l => .list (toDs l)
  | .st => .none
def toDs : List W → List PyData
  | [] => []
  | w :: l => toD w :: toDs l
end
mutual
/-- no drawing state within -/
def noSt : W → Bool
  | .st => false
  | .tup l => noSts l
  | .lst l => noSts l
  | _ => true
def noSts : List W → Bool
  | [] => true
  | w :: l => noSt w && noSts l
end
/-- may be compared -/
def cmpable (w : W) : Bool := noSt w && SeqAt.shaped (toD w)
def eqW (a b : W) : Option Bool := if cmpable a && cmpable b then some (PyData.eqv (toD a) (toD b)) else none

def okMul (i j : Int) : Prop := i.natAbs.log2 + j.natAbs.log2 < 1000000
instance (i j : Int) : Decidable (okMul i j) := inferInstanceAs (Decidable (_ < _))
def okDiv (i j : Int) : Prop := j ≠ 0 ∧ Builtin.divisionGoesByPylong i j = false
instance (i j : Int) : Decidable (okDiv i j) := inferInstanceAs (Decidable (_ ∧ _))

def binW : Operator → W → W → Option W
  | .Add, .int i, .int j => some (.int (i + j))
  | .Sub, .int i, .int j => some (.int (i - j))
  | .Mult, .int i, .int j => if okMul i j then some (.int (i * j)) else none
  | .FloorDiv, .int i, .int j => if okDiv i j then some (.int (i.fdiv j)) else none
  | .Mod, .int i, .int j => if j ≠ 0 then some (.int (i.fmod j)) else none
  | .Add, .lst x, .lst y => if x.length + y.length ≤ sizeLine then some (.lst (x ++ y)) else none
  | .Add, .tup x, .tup y => if x.length + y.length ≤ sizeLine then some (.tup (x ++ y)) else none
  | .Mult, .lst x, .int k => if 0 ≤ k ∧ k < 1000 ∧ x.length * k.toNat ≤ sizeLine then some (.lst (List.replicate k.toNat x).flatten) else none
  | .Mult, .tup x, .int k => if x ≠ [] ∧ 2 ≤ k ∧ k ≤ 1000 ∧ x.length ≤ 1000 then some (.tup (List.replicate k.toNat x).flatten) else none
  | _, _, _ => none
def truW : W → Option Bool
  | .non => some false
  | .bl b => some b
  | .int i => some (i != 0)
  | .tup l => some (!l.isEmpty)
  | .lst l => some (!l.isEmpty)
  | _ => none
/-- the order of lists and tuples of ints -/
def ltI : List W → List W → Option Bool
  | [], [] => some false
  | [], .int _ :: _ => some true
  | .int _ :: _, [] => some false
  | .int i :: l, .int j :: m => if i = j then ltI l m else some (decide (i < j))
  | _, _ => none
def inW (a : W) : W → Option Bool
  | .lst l => if cmpable a && cmpable (.lst l) then some (l.any fun z => PyData.eqv (toD z) (toD a)) else none
  | .tup l => if cmpable a && cmpable (.tup l) then some (l.any fun z => PyData.eqv (toD z) (toD a)) else none
  | _ => none
def isNon : W → Bool
  | .non => true
  | _ => false
/-- data that the orders serve -/
def alk (a b : W) : Bool := cmpable a && cmpable b && PySem.W.alike (toD a) (toD b) && !isNon a
def cmpW : CmpOp → W → W → Option Bool
  | .Eq, a, b => eqW a b
  | .NotEq, a, b => (eqW a b).map (!·)
  | .Lt, .int i, .int j => some (decide (i < j))
  | .LtE, .int i, .int j => some (decide (i ≤ j))
  | .Gt, .int i, .int j => some (decide (j < i))
  | .GtE, .int i, .int j => some (decide (j ≤ i))
  | .Lt, a, b => if alk a b then some (PySem.W.dataLt (toD a) (toD b)) else none
  | .LtE, a, b => if alk a b then some (!PySem.W.dataLt (toD b) (toD a)) else none
  | .Gt, a, b => if alk a b then some (PySem.W.dataLt (toD b) (toD a)) else none
  | .GtE, a, b => if alk a b then some (!PySem.W.dataLt (toD a) (toD b)) else none
  | .In, a, b => inW a b
  | .NotIn, a, b => (inW a b).map (!·)
  | .Is, a, .non => some (isNon a)
  | .IsNot, a, .non => some (!isNon a)
  | .Is, .bl a, .bl b => some (decide (a = b))
  | .IsNot, .bl a, .bl b => some (!decide (a = b))
  | _, _, _ => none
def cstW : Const → Option W
  | .none => some .non
  | .bool b => some (.bl b)
  | .int i => some (.int i)
  | .str s => some (.str s)
  | _ => none
def idxW : W → W → Option W
  | .lst l, .int i => atI l i
  | .tup l, .int i => atI l i
  | _, _ => none
/-- the items between two places -/
def cutW (l : List W) (lo hi : Option Int) : List W := (l.drop (HT.sIx l.length 0 lo)).take (HT.sIx l.length l.length hi - HT.sIx l.length 0 lo)
def sliceW : W → Option Int → Option Int → Option W
  | .lst l, lo, hi => some (.lst (cutW l lo hi))
  | .tup l, lo, hi => some (.tup (cutW l lo hi))
  | _, _, _ => none
def intsOf : List W → Option (List Int)
  | [] => some []
  | .int i :: l => (intsOf l).map (i :: ·)
  | _ => none
def lenW : List W → Option W
  | [.lst l] => some (.int l.length)
  | [.tup l] => some (.int l.length)
  | _ => none
def absW : List W → Option W
  | [.int i] => some (.int (if i < 0 then -i else i))
  | _ => none
def intW : List W → Option W
  | [.int i] => some (.int i)
  | [.bl b] => some (.int (if b then 1 else 0))
  | _ => none
def tupleW : List W → Option W
  | [.lst l] => some (.tup l)
  | [.tup l] => some (.tup l)
  | _ => none
def listW : List W → Option W
  | [.lst l] => some (.lst l)
  | [.tup l] => some (.lst l)
  | _ => none
def gcdW : List W → Option W
  | [.int i, .int j] => some (.int ((Nat.gcd i.natAbs j.natAbs : Nat) : Int))
  | _ => none
def sumW : List W → Option W
  | [.lst l] => (intsOf l).map fun ns => .int ns.sum
  | [.tup l] => (intsOf l).map fun ns => .int ns.sum
  | _ => none
def minW : List W → Option W
  | [.int i, .int j] => some (.int (if j < i then j else i))
  | _ => none
def maxW : List W → Option W
  | [.int i, .int j] => some (.int (if j > i then j else i))
  | _ => none
/-- data that sorted() serves -/
def sortOk (l : List W) : Bool := decide (l.length ≤ 1000) && (l.all fun a => noSt a && decide ((toD a).depth ≤ 60)) && (l.all fun a => l.all fun b => PySem.W.alike (toD a) (toD b)) &&
  ((l.all fun a => match a with | .tup (_ :: _) => true | _ => false) || (l.all fun a => match a with | .non => false | .tup _ => false | _ => true))
def sortedW : List W → Option W
  | [.lst l] => if sortOk l then some (.lst (l.mergeSort (PySem.W.dataLe false toD))) else none
  | [.tup l] => if sortOk l then some (.lst (l.mergeSort (PySem.W.dataLe false toD))) else none
  | _ => none
def isqrtW : List W → Option W
  | [.int i] => if 0 ≤ i ∧ i.toNat.log2 ≤ 13000 then some (.int ((Float64.isqrt i.toNat : Nat) : Int)) else none
  | _ => none
/-- truth of the items of a list of flags, ints, None -/
def flagsW : List W → Option (List Bool)
  | [] => some []
  | .bl b :: l => (flagsW l).map (b :: ·)
  | .int i :: l => (flagsW l).map ((i != 0) :: ·)
  | .non :: l => (flagsW l).map (false :: ·)
  | _ => none
def anyW : List W → Option W
  | [.lst l] => (flagsW l).map fun bs => .bl (bs.any id)
  | [.tup l] => (flagsW l).map fun bs => .bl (bs.any id)
  | _ => none
def allW : List W → Option W
  | [.lst l] => (flagsW l).map fun bs => .bl (bs.all id)
  | [.tup l] => (flagsW l).map fun bs => .bl (bs.all id)
  | _ => none
/-- a built-in function -/
def builtW (f : Str) : List W → Option W :=
  if f = "len" then lenW else
  if f = "abs" then absW else
  if f = "int" then intW else
  if f = "tuple" then tupleW else
  if f = "list" then listW else
  if f = "gcd" then gcdW else
  if f = "sum" then sumW else
  if f = "min" then minW else
  if f = "max" then maxW else
  if f = "sorted" then sortedW else
  if f = "isqrt" then isqrtW else
  if f = "any" then anyW else
  if f = "all" then allW else
  fun _ => none
theorem builtW_len : builtW "len" = lenW := if_pos rfl
theorem builtW_abs : builtW "abs" = absW := (if_neg (by decide)).trans (if_pos rfl)
theorem builtW_int : builtW "int" = intW := (if_neg (by decide)).trans ((if_neg (by decide)).trans (if_pos rfl))
theorem builtW_tuple : builtW "tuple" = tupleW := (if_neg (by decide)).trans ((if_neg (by decide)).trans ((if_neg (by decide)).trans (if_pos rfl)))
theorem builtW_list : builtW "list" = listW := (if_neg (by decide)).trans ((if_neg (by decide)).trans ((if_neg (by decide)).trans ((if_neg (by decide)).trans (if_pos rfl))))
theorem builtW_gcd : builtW "gcd" = gcdW := (if_neg (by decide)).trans ((if_neg (by decide)).trans ((if_neg (by decide)).trans ((if_neg (by decide)).trans ((if_neg (by decide)).trans (if_pos rfl)))))
theorem builtW_sum : builtW "sum" = sumW := (if_neg (by decide)).trans ((if_neg (by decide)).trans ((if_neg (by decide)).trans ((if_neg (by decide)).trans ((if_neg (by decide)).trans ((if_neg (by decide)).trans (if_pos rfl))))))
theorem builtW_min : builtW "min" = minW := (if_neg (by decide)).trans ((if_neg (by decide)).trans ((if_neg (by decide)).trans ((if_neg (by decide)).trans ((if_neg (by decide)).trans ((if_neg (by decide)).trans ((if_neg (by decide)).trans (if_pos rfl)))))))
theorem builtW_max : builtW "max" = maxW := (if_neg (by decide)).trans ((if_neg (by decide)).trans ((if_neg (by decide)).trans ((if_neg (by decide)).trans ((if_neg (by decide)).trans ((if_neg (by decide)).trans ((if_neg (by decide)).trans ((if_neg (by decide)).trans (if_pos rfl))))))))
theorem builtW_sorted : builtW "sorted" = sortedW := ((if_neg (by decide)).trans ((if_neg (by decide)).trans ((if_neg (by decide)).trans ((if_neg (by decide)).trans ((if_neg (by decide)).trans ((if_neg (by decide)).trans ((if_neg (by decide)).trans ((if_neg (by decide)).trans ((if_neg (by decide)).trans (if_pos rfl))))))))))
theorem builtW_isqrt : builtW "isqrt" = isqrtW := ((if_neg (by decide)).trans ((if_neg (by decide)).trans ((if_neg (by decide)).trans ((if_neg (by decide)).trans ((if_neg (by decide)).trans ((if_neg (by decide)).trans ((if_neg (by decide)).trans ((if_neg (by decide)).trans ((if_neg (by decide)).trans ((if_neg (by decide)).trans (if_pos rfl)))))))))))
theorem builtW_any : builtW "any" = anyW := (if_neg (by decide)).trans ((if_neg (by decide)).trans ((if_neg (by decide)).trans ((if_neg (by decide)).trans ((if_neg (by decide)).trans ((if_neg (by decide)).trans ((if_neg (by decide)).trans ((if_neg (by decide)).trans ((if_neg (by decide)).trans ((if_neg (by decide)).trans ((if_neg (by decide)).trans (if_pos rfl)))))))))))
theorem builtW_all : builtW "all" = allW := (if_neg (by decide)).trans ((if_neg (by decide)).trans ((if_neg (by decide)).trans ((if_neg (by decide)).trans ((if_neg (by decide)).trans ((if_neg (by decide)).trans ((if_neg (by decide)).trans ((if_neg (by decide)).trans ((if_neg (by decide)).trans ((if_neg (by decide)).trans ((if_neg (by decide)).trans ((if_neg (by decide)).trans (if_pos rfl))))))))))))
def bnames : List Str := ["len", "abs", "int", "tuple", "list", "sum", "min", "max", "sorted", "isqrt", "gcd", "any", "all"]
theorem builtW_no {f : Str} (h : f ∉ (["len", "abs", "int", "tuple", "list", "gcd", "sum", "min", "max", "sorted", "isqrt", "any", "all"] : List Str)) : builtW f = fun _ => none := by
  simp only [List.mem_cons, List.not_mem_nil, or_false, not_or] at h
  obtain ⟨h0, h1, h2, h3, h4, h5, h6, h7, h8, h9, h10, h11, h12⟩ := h
  unfold builtW
  rw [if_neg h0, if_neg h1, if_neg h2, if_neg h3, if_neg h4, if_neg h5, if_neg h6, if_neg h7, if_neg h8, if_neg h9, if_neg h10, if_neg h11, if_neg h12]
def isB : W → Option Bool
  | .bl _ => some true
  | .st => none
  | _ => some false
def isI : W → Option Bool
  | .bl _ => some true
  | .int _ => some true
  | .st => none
  | _ => some false
def isS : W → Option Bool
  | .str _ => some true
  | .st => none
  | _ => some false
/-- isinstance(w, T) -/
def isL : W → Option Bool
  | .lst _ => some true
  | .st => none
  | _ => some false
def isTp : W → Option Bool
  | .tup _ => some true
  | .st => none
  | _ => some false
def isiT (T : Str) : W → Option Bool := if T = "bool" then isB else if T = "int" then isI else if T = "str" then isS else if T = "list" then isL else if T = "tuple" then isTp else fun _ => none
theorem isiT_list : isiT "list" = isL := (if_neg (by decide)).trans ((if_neg (by decide)).trans ((if_neg (by decide)).trans (if_pos rfl)))
theorem isiT_tuple : isiT "tuple" = isTp := (if_neg (by decide)).trans ((if_neg (by decide)).trans ((if_neg (by decide)).trans ((if_neg (by decide)).trans (if_pos rfl))))
theorem isiT_bool : isiT "bool" = isB := if_pos rfl
theorem isiT_int : isiT "int" = isI := (if_neg (by decide)).trans (if_pos rfl)
theorem isiT_str : isiT "str" = isS := (if_neg (by decide)).trans ((if_neg (by decide)).trans (if_pos rfl))

/-! ### slots -/
inductive Sl where
  | no | val (w : W) | own (l : List W)
  deriving Inhabited
/-- the owned lists at these slots are owned no more -/
def freeze (esc : List Nat) (ρ : List Sl) : List Sl := match esc with
  | [] => ρ
  | i :: r => match (freeze r ρ)[i]? with
    | some (.own l) => (freeze r ρ).set i (.val (.lst l))
    | _ => freeze r ρ
/-- the slots forgotten -/
def wipeS (ρ : List Sl) : List Nat → List Sl
  | [] => ρ
  | v :: vs => (wipeS ρ vs).set v .no

def asgT : IT → W → List Sl → Option (List Sl)
  | .name i _ _, w, ρ => some (ρ.set i (.val w))
  | .tup ts _ _, w, ρ => match w with
    | .tup l => asgTs ts l ρ
    | .lst l => asgTs ts l ρ
    | _ => none
where asgTs : ITs → List W → List Sl → Option (List Sl)
  | .nil, [], ρ => some ρ
  | .cons t ts, w :: l, ρ => (asgT t w ρ).bind fun ρ' => asgTs ts l ρ'
  | _, _, _ => none

/-! ### the evaluator -/
section
variable {S : Type} (F : Str → List W → S → Option (W × S)) (G : Str → Option W)

/-- list comprehension: the items one after another -/
def lcGo (f : W → S → Option (Option W × S)) : List W → S → Option (List W × S)
  | [], s => some ([], s)
  | w :: l, s => (f w s).bind fun r => (lcGo f l r.2).bind fun q => some ((match r.1 with | some y => y :: q.1 | none => q.1), q.2)
/-- two clauses -/
def lcGo2 (f : W → S → Option (List W × S)) : List W → S → Option (List W × S)
  | [], s => some ([], s)
  | w :: l, s => (f w s).bind fun r => (lcGo2 f l r.2).bind fun q => some (r.1 ++ q.1, q.2)

def isOr : BoolOp → Bool
  | .Or => true
  | .And => false
/-- an operand that is only read: an owned list too -/
def lent : IE → List Sl → Option (List W)
  | .var i _ _, ρ => match ρ[i]? with
    | some (.own l) => some l
    | _ => none
  | _, _ => none
def orB (o : Option (List W)) (s : S) (r : Option (W × S)) : Option (W × S) := match o with
  | some l => some (.lst l, s)
  | none => r
mutual
def evE : IE → List Sl → S → Option (W × S)
  | .var i _ _, ρ, s => match ρ[i]? with
    | some (.val w) => some (w, s)
    | _ => none
  | .cst c _ _, _, s => (cstW c).map fun w => (w, s)
  | .glob x _, _, s => (G x).map fun w => (w, s)
  | .bin a op b _, ρ, s => (evE a ρ s).bind fun x => (evE b ρ x.2).bind fun y => (binW op x.1 y.1).map fun w => (w, y.2)
  | .neg a _, ρ, s => (evE a ρ s).bind fun x => match x.1 with
    | .int i => some (.int (-i), x.2)
    | _ => none
  | .not a _, ρ, s => (evE a ρ s).bind fun x => (truW x.1).map fun b => (.bl (!b), x.2)
  | .boolop op es _, ρ, s => evBool op es ρ s
  | .cmp a op b _, ρ, s => (orB (lent a ρ) s (evE a ρ s)).bind fun x => (orB (lent b ρ) x.2 (evE b ρ x.2)).bind fun y => (cmpW op x.1 y.1).map fun r => (.bl r, y.2)
  | .chain a o1 b o2 c _, ρ, s => (evE a ρ s).bind fun x => (evE b ρ x.2).bind fun y => (cmpW o1 x.1 y.1).bind fun r =>
      if r then (evE c ρ y.2).bind fun z => (cmpW o2 y.1 z.1).map fun r' => (.bl r', z.2) else some (.bl false, y.2)
  | .ifx c a b _, ρ, s => (evE c ρ s).bind fun x => (truW x.1).bind fun r => if r then evE a ρ x.2 else evE b ρ x.2
  | .call f es _ _, ρ, s => (evEs es ρ s).bind fun x => F f x.1 x.2
  | .bcall f es _ _, ρ, s => (evBs es ρ s).bind fun x => (builtW f x.1).map fun w => (w, x.2)
  | .isinst e T _ _ _, ρ, s => (evE e ρ s).bind fun x => (isiT T x.1).map fun b => (.bl b, x.2)
  | .idx a b _, ρ, s => (orB (lent a ρ) s (evE a ρ s)).bind fun x => (evE b ρ x.2).bind fun y => (idxW x.1 y.1).map fun w => (w, y.2)
  | .slice a lo hi _ _, ρ, s => (orB (lent a ρ) s (evE a ρ s)).bind fun x => (evO lo ρ x.2).bind fun l => (evO hi ρ l.2).bind fun h => (sliceW x.1 l.1 h.1).map fun w => (w, h.2)
  | .revsl a _ _ _ _ _, ρ, s => (orB (lent a ρ) s (evE a ρ s)).bind fun x => match x.1 with
    | .lst l => some (.lst l.reverse, x.2)
    | .tup l => some (.tup l.reverse, x.2)
    | _ => none
  | .tup es _ _, ρ, s => (evEs es ρ s).bind fun x => if x.1.length ≤ sizeLine then some (.tup x.1, x.2) else none
  | .lst es _, ρ, s => (evEs es ρ s).bind fun x => if x.1.length ≤ sizeLine then some (.lst x.1, x.2) else none
  | .lc elt tg it ifs _ own _, ρ, s => (evI true it ρ s).bind fun x =>
      if x.1.length ≤ sizeLine then
      (lcGo (fun w s => (asgT tg w (wipeS ρ (own.map (·.2)))).bind fun ρ2 => (evIf ifs ρ2 s).bind fun c => if c.1 then (evE elt ρ2 c.2).map fun y => (some y.1, y.2) else some (none, c.2)) x.1 x.2).map fun y => (.lst y.1, y.2)
      else none
  | .gen any_ g _ it _ _ _ _ _, ρ, s => (evE it ρ s).bind fun y => match y.1 with
    | .tup l => (tstAll g l).map fun bs => (.bl (if any_ then bs.any id else bs.all id), y.2)
    | _ => none
  | .lc2 elt tg it ifs tg1 it1 ifs1 _ own vs1 _, ρ, s => (evI true it ρ s).bind fun x =>
      (lcGo2 (fun w s => (asgT tg w (wipeS ρ (own.map (·.2)))).bind fun ρ2 => (evIf ifs ρ2 s).bind fun c => if c.1 then
        (evI false it1 ρ2 c.2).bind fun x1 => lcGo (fun w s => (asgT tg1 w (wipeS ρ2 vs1)).bind fun ρ3 => (evIf ifs1 ρ3 s).bind fun c => if c.1 then (evE elt ρ3 c.2).map fun y => (some y.1, y.2) else some (none, c.2)) x1.1 x1.2
        else some ([], c.2)) x.1 x.2).bind fun y => if y.1.length ≤ sizeLine then some (.lst y.1, y.2) else none
def evEs : IEs → List Sl → S → Option (List W × S)
  | .nil, _, s => some ([], s)
  | .cons e es, ρ, s => (evE e ρ s).bind fun x => (evEs es ρ x.2).map fun r => (x.1 :: r.1, r.2)
def evBs : IEs → List Sl → S → Option (List W × S)
  | .nil, _, s => some ([], s)
  | .cons e es, ρ, s => (orB (lent e ρ) s (evE e ρ s)).bind fun x => (evBs es ρ x.2).map fun r => (x.1 :: r.1, r.2)
def evBool : BoolOp → IEs → List Sl → S → Option (W × S)
  | _, .nil, _, _ => none
  | _, .cons e .nil, ρ, s => evE e ρ s
  | op, .cons e (.cons e2 es), ρ, s => (evE e ρ s).bind fun x => (truW x.1).bind fun r => if r = isOr op then some x else evBool op (.cons e2 es) ρ x.2
def evO : IO → List Sl → S → Option (Option Int × S)
  | .none, _, s => some (none, s)
  | .some e, ρ, s => (evE e ρ s).bind fun x => match x.1 with
    | .int i => some (some i, x.2)
    | _ => none
def evIf : IO → List Sl → S → Option (Bool × S)
  | .none, _, s => some (true, s)
  | .some e, ρ, s => (evE e ρ s).bind fun x => (truW x.1).map fun b => (b, x.2)
def evI (b : Bool) : II → List Sl → S → Option (List W × S)
  | .seq e, ρ, s => (orB (if b then lent e ρ else none) s (evE e ρ s)).bind fun x => match x.1 with
    | .lst l => some (l, x.2)
    | .tup l => some (l, x.2)
    | _ => none
  | .range es _ _, ρ, s => (evEs es ρ s).bind fun x => match x.1 with
    | [.int j] => if -(2 ^ 62) ≤ j ∧ j < 2 ^ 62 then some ((List.range j.toNat).map fun i => W.int (0 + (i : Nat)), x.2) else none
    | [.int i, .int j] => if -(2 ^ 62) ≤ i ∧ i < 2 ^ 62 ∧ -(2 ^ 62) ≤ j ∧ j < 2 ^ 62 then some ((List.range (j - i).toNat).map fun k => W.int (i + (k : Nat)), x.2) else none
    | [.int i, .int j, .int (-1)] => if -(2 ^ 62) ≤ i ∧ i < 2 ^ 62 ∧ -(2 ^ 62) ≤ j ∧ j < 2 ^ 62 then some ((List.range (i - j).toNat).map fun k => W.int (i - (k : Nat)), x.2) else none
    | _ => none
  | .zip a c _ _, ρ, s => (orB (if b then lent a ρ else none) s (evE a ρ s)).bind fun x => (orB (if b then lent c ρ else none) x.2 (evE c ρ x.2)).bind fun y => match x.1, y.1 with
    | .lst l, .lst m => some (List.zipWith (fun u v => W.tup [u, v]) l m, y.2)
    | .tup l, .tup m => some (List.zipWith (fun u v => W.tup [u, v]) l m, y.2)
    | .tup l, .lst m => some (List.zipWith (fun u v => W.tup [u, v]) l m, y.2)
    | .lst l, .tup m => some (List.zipWith (fun u v => W.tup [u, v]) l m, y.2)
    | _, _ => none
  | .enum e _ _, ρ, s => (orB (if b then lent e ρ else none) s (evE e ρ s)).bind fun x => match x.1 with
    | .lst l => some (l.zipIdx.map fun p => W.tup [.int (p.2 : Nat), p.1], x.2)
    | _ => none
  | .rev e _ _, ρ, s => (orB (if b then lent e ρ else none) s (evE e ρ s)).bind fun x => match x.1 with
    | .lst l => some (l.reverse, x.2)
    | .tup l => some (l.reverse, x.2)
    | _ => none
end

/-! ### statements -/
inductive Fl where
  | nx | brk | cnt | ret (w : W)
abbrev R3 (S : Type) := Fl × List Sl × S

/-- behind an expression: the owned lists that it could hand on are owned no more -/
def after (esc : List Nat) (w : W) (ρ : List Sl) : List Sl := if flat w then ρ else freeze esc ρ

/-- a step taken again and again: .inl goes on -/
def iterN {α β : Type} (f : α → Option (α ⊕ β)) : Nat → α → Option β
  | 0, _ => none
  | n + 1, a => match f a with
    | none => none
    | some (.inr b) => some b
    | some (.inl a') => iterN f n a'
open Classical in
noncomputable def iter {α β : Type} (f : α → Option (α ⊕ β)) (a : α) : Option β :=
  if h : ∃ n, (iterN f n a).isSome = true then iterN f h.choose a else none
/-- for: one item after another -/
def forGo (f : W → List Sl × S → Option (R3 S)) : List W → List Sl × S → Option (R3 S)
  | [], a => some (.nx, a.1, a.2)
  | w :: l, a => (f w a).bind fun r => match r.1 with
    | .nx => forGo f l r.2
    | .cnt => forGo f l r.2
    | .brk => some (.nx, r.2)
    | .ret v => some (.ret v, r.2)

def stor (own : Bool) (w : W) : Sl := match own, w with
  | true, .lst l => .own l
  | _, w => .val w
def parSet : List (Nat × Str × Pos) → List W → List Sl → Option (List Sl)
  | [], [], ρ => some ρ
  | t :: ts, w :: l, ρ => parSet ts l (ρ.set t.1 (.val w))
  | _, _, _ => none
def pairW : W → Option (W × W)
  | .tup [u, v] => some (u, v)
  | _ => none
def ownS : Option Sl → Option (List W)
  | some (.own l) => some l
  | _ => none
def putW (l : List W) (k w : W) : Option (List W) := match k with
  | .int k => (ixN l.length k).map fun j => l.set j w
  | _ => none
mutual
noncomputable def evS : IS → List Sl → S → Option (R3 S)
  | .asg tg e esc own _, ρ, s => (evE F G e (freeze esc ρ) s).bind fun x => match tg with
    | .name i _ _ => some (.nx, (after esc x.1 ρ).set i (stor own x.1), x.2)
    | tg => (asgT tg x.1 (after esc x.1 ρ)).map fun ρ' => (.nx, ρ', x.2)
  | .par xs _ _ es _ _ esc _, ρ, s => (evEs F G es (freeze esc ρ) s).bind fun x => (parSet xs x.1 (if flats x.1 then ρ else freeze esc ρ)).map fun ρ' => (.nx, ρ', x.2)
  | .setlc i _ _ e esc own _, ρ, s => (evE F G e (freeze esc ρ) s).bind fun x => some (.nx, (after esc x.1 ρ).set i (stor own x.1), x.2)
  | .aug i _ _ op e esc _, ρ, s => match ρ[i]? with
    | some (.val u) => (evE F G e (freeze esc ρ) s).bind fun x => match u, x.1 with
      | .int a, .int b => (binW op (.int a) (.int b)).map fun w => (.nx, ρ.set i (.val w), x.2)
      | _, _ => none
    | _ => none
  | .setix i _ _ ix _ e esc _, ρ, s => (evE F G e (freeze esc ρ) s).bind fun x => match (after esc x.1 ρ)[i]? with
    | some (.own l) => (evE F G ix (after esc x.1 ρ) x.2).bind fun y => match y.1 with
      | .int k => (ixN l.length k).map fun j => (.nx, (after esc x.1 ρ).set i (.own (l.set j x.1)), y.2)
      | _ => none
    | _ => none
  | .set2 i _ _ i1 _ _ i2 _ _ _ e esc _, ρ, s => (evE F G e (freeze esc ρ) s).bind fun x => (pairW x.1).bind fun uv => (ownS (after esc x.1 ρ)[i]?).bind fun l =>
      (evE F G i1 (after esc x.1 ρ) x.2).bind fun y => (putW l y.1 uv.1).bind fun l1 => (evE F G i2 ((after esc x.1 ρ).set i (.own l1)) y.2).bind fun z => (putW l1 z.1 uv.2).map fun l2 =>
        (.nx, ((after esc x.1 ρ).set i (.own l1)).set i (.own l2), z.2)
  | .app i _ _ _ _ e esc _, ρ, s => (evE F G e (freeze esc ρ) s).bind fun x => match (after esc x.1 ρ)[i]? with
    | some (.own l) => if l.length < sizeLine then some (.nx, (after esc x.1 ρ).set i (.own (l ++ [x.1])), x.2) else none
    | _ => none
  | .ins i _ _ _ _ k e esc _, ρ, s => (evE F G k ρ s).bind fun x => match x.1 with
    | .int j => (evE F G e (freeze esc ρ) x.2).bind fun y => match (after esc y.1 ρ)[i]? with
      | some (.own l) => if l.length < sizeLine ∧ 0 ≤ j ∧ j < 2 ^ 63 then some (.nx, (after esc y.1 ρ).set i (.own (l.take j.toNat ++ [y.1] ++ l.drop j.toNat)), y.2) else none
      | _ => none
    | _ => none
  | .ret e esc _, ρ, s => (evE F G e (freeze esc ρ) s).map fun x => (.ret x.1, ρ, x.2)
  | .retn _, ρ, s => some (.ret .non, ρ, s)
  | .ite c a b esc _, ρ, s => (evE F G c (freeze esc ρ) s).bind fun x => (truW x.1).bind fun r => if r then evSs a ρ x.2 else evSs b ρ x.2
  | .whl c b esc wp _, ρ, s => iter (fun (a : List Sl × S) => (evE F G c (freeze esc a.1) a.2).bind fun x => (truW x.1).bind fun r =>
      if r then (evSs b a.1 x.2).bind fun q => match q.1 with
        | .nx => some (.inl (wipeS q.2.1 wp, q.2.2))
        | .cnt => some (.inl (wipeS q.2.1 wp, q.2.2))
        | .brk => some (.inr (Fl.nx, wipeS q.2.1 wp, q.2.2))
        | .ret v => some (.inr (Fl.ret v, q.2.1, q.2.2))
      else some (.inr (Fl.nx, a.1, x.2))) (ρ, s)
  | .for_ tg it b esc wp _, ρ, s => (evI F G false it (freeze esc ρ) s).bind fun x =>
      forGo (fun w a => (asgT tg w a.1).bind fun ρ1 => (evSs b ρ1 a.2).bind fun q => match q.1 with
        | .nx => some (.nx, wipeS q.2.1 wp, q.2.2)
        | .cnt => some (.nx, wipeS q.2.1 wp, q.2.2)
        | .brk => some (.brk, wipeS q.2.1 wp, q.2.2)
        | .ret v => some (.ret v, q.2.1, q.2.2)) x.1 (freeze esc ρ, x.2)
  | .brk _, ρ, s => some (.brk, ρ, s)
  | .cnt _, ρ, s => some (.cnt, ρ, s)
  | .pass _, ρ, s => some (.nx, ρ, s)
noncomputable def evSs : ISs → List Sl → S → Option (R3 S)
  | .nil, ρ, s => some (.nx, ρ, s)
  | .cons st ss, ρ, s => (evS st ρ s).bind fun r => match r.1 with
    | .nx => evSs ss r.2.1 r.2.2
    | f => some (f, r.2)
end

/-- a def called: n parameters, N slots -/
noncomputable def evF (n N : Nat) (b : ISs) (ws : List W) (s : S) : Option (W × S) :=
  if ws.length = n then (evSs F G b (ws.map Sl.val ++ List.replicate (N - n) .no) s).bind fun r => match r.1 with
    | .nx => some (.non, r.2.2)
    | .ret w => some (w, r.2.2)
    | _ => none
  else none
end

theorem iterN_more {α β : Type} {f : α → Option (α ⊕ β)} : ∀ {n : Nat} {a : α} {b : β}, iterN f n a = some b → ∀ {m : Nat}, n ≤ m → iterN f m a = some b
  | 0, _, _, h, _, _ => by simp [iterN] at h
  | n + 1, a, b, h, 0, hm => by omega
  | n + 1, a, b, h, m + 1, hm => by
    rw [iterN] at h ⊢
    cases e : f a with
    | none => rw [e] at h; simp at h
    | some r =>
      rw [e] at h
      cases r with
      | inr b' => exact h
      | inl a' => exact iterN_more h (by omega)
theorem iter_of {α β : Type} {f : α → Option (α ⊕ β)} {n : Nat} {a : α} {b : β} (h : iterN f n a = some b) : iter f a = some b := by
  unfold iter
  have hx : ∃ n, (iterN f n a).isSome = true := ⟨n, by rw [h]; rfl⟩
  rw [dif_pos hx]
  have h1 := hx.choose_spec
  obtain ⟨c, hc⟩ := Option.isSome_iff_exists.mp h1
  rw [hc]
  have m1 := iterN_more hc (Nat.le_max_left hx.choose n)
  have m2 := iterN_more h (Nat.le_max_right hx.choose n)
  rw [m1] at m2
  exact m2
theorem iter_some {α β : Type} {f : α → Option (α ⊕ β)} {a : α} {b : β} (h : iter f a = some b) : ∃ n, iterN f n a = some b := by
  unfold iter at h
  split at h
  · exact ⟨_, h⟩
  · simp at h
theorem iter_eq {α β : Type} (f : α → Option (α ⊕ β)) (a : α) : iter f a = (f a).bind fun r => match r with
    | .inr b => some b
    | .inl a' => iter f a' := by
  cases e : f a with
  | none =>
    cases q : iter f a with
    | none => rfl
    | some b =>
      obtain ⟨n, h⟩ := iter_some q
      cases n with
      | zero => simp [iterN] at h
      | succ n => simp [iterN, e] at h
  | some r =>
    cases r with
    | inr b => exact iter_of (n := 1) (by simp [iterN, e])
    | inl a' =>
      show iter f a = iter f a'
      cases q : iter f a' with
      | some b =>
        obtain ⟨n, h⟩ := iter_some q
        exact iter_of (n := n + 1) (by simp [iterN, e, h])
      | none =>
        cases q2 : iter f a with
        | none => rfl
        | some b =>
          obtain ⟨n, h⟩ := iter_some q2
          cases n with
          | zero => simp [iterN] at h
          | succ n =>
            simp [iterN, e] at h
            rw [iter_of h] at q
            cases q
end MP

/-! MP3: what ties the small syntax to the program: contexts, readings. -/
namespace MP
open PySem PySem.Spec PyProof.Rows L2

/-! ### the written forms -/
theorem starEach_ie (e : IE) (es : List Expr) (env : Env) : starEach (e.ast :: es) env = (false, eval e.ast env) :: starEach es env := by
  cases e <;> rfl
theorem plain_ix (e : IE) : PlainIx e.ast := by
  cases e <;> intro o i <;> rfl
theorem folded_ie (e : IE) (env : Env) (x : Value) : foldedSetIterable e.ast env x = pure x := by
  cases e <;> rfl
theorem folded_ii (it : II) (env : Env) (x : Value) : foldedSetIterable it.ast env x = pure x := by
  cases it with
  | seq e => exact folded_ie e env x
  | range _ _ _ => rfl
  | zip _ _ _ _ => rfl
  | enum _ _ _ => rfl
  | rev _ _ _ => rfl
theorem any_star (env : Env) : ∀ (es : IEs), (starEach es.ast env).any (·.1) = false
  | .nil => rfl
  | .cons e es => by
    show (starEach (e.ast :: es.ast) env).any (·.1) = false
    rw [starEach_ie, List.any_cons, any_star env es]; rfl
theorem backTo_any (pos : Pos) (es : IEs) (env : Env) : (backTo pos (starEach es.ast env)).any (·.1) = false := by
  have h := any_star env es
  unfold backTo
  rw [List.any_map]
  exact h

/-! ### names -/
def visB (sc : Scope) (x : Str) : Bool := match sc.names.lookup x with
  | some .local => true
  | some .cell => true
  | some .free => true
  | _ => false
def locB (sc : Scope) (x : Str) : Bool := match sc.names.lookup x with
  | some .local => true
  | some .cell => true
  | _ => false
def capB (sc : Scope) (x : Str) : Bool := match sc.names.lookup x with
  | some .cell => true
  | some .free => true
  | _ => false
def lclB (sc : Scope) (x : Str) : Bool := match sc.names.lookup x with
  | some .local => true
  | _ => false
def glbB (sc : Scope) (x : Str) : Bool := match sc.names.lookup x with
  | some .globalImplicit => true
  | _ => false
/-- the running scope answers as the written one -/
structure ScOk (X : Cx) (sc : Scope) : Prop where
  vis : ∀ x, visB sc x = true → Vis X.env.scope x
  loc : ∀ x, locB sc x = true → L2.Loc X.env.scope x ∧ (X.fn x = true ∨ X.env.scope.names.lookup x = some .local)
  cap : ∀ x, capB sc x = true → X.env.scope.names.lookup x = some .cell ∨ X.env.scope.names.lookup x = some .free
  lcl : ∀ x, lclB sc x = true → X.env.scope.names.lookup x = some .local
  glb : ∀ x, glbB sc x = true → Gl X x
theorem ScOk.self {X : Cx} (hf : ∀ x, X.fn x = true) : ScOk X X.env.scope where
  vis := fun x h => by
    unfold visB at h; unfold Vis
    split at h <;> rename_i e
    · exact .inl e
    · exact .inr (.inl e)
    · exact .inr (.inr e)
    · cases h
  loc := fun x h => by
    unfold locB at h
    refine ⟨?_, .inl (hf x)⟩
    unfold L2.Loc
    split at h <;> rename_i e
    · exact .inl e
    · exact .inr e
    · cases h
  cap := fun x h => by
    unfold capB at h
    split at h <;> rename_i e
    · exact .inl e
    · exact .inr e
    · cases h
  lcl := fun x h => by
    unfold lclB at h
    split at h <;> rename_i e
    · exact e
    · cases h
  glb := fun x h => by
    unfold glbB at h; unfold Gl Env.kindOf
    split at h <;> rename_i e
    · exact e
    · cases h

section
variable {S : Type} (mk : Addr → Addr → Sys S) (F : Str → List W → S → Option (W × S)) (G : Str → Option W)

/-- the slots hold what is said -/
structure ERel (Y : Sys S) (O : Addr → Prop) (σ : L2.St) (ρ : List Sl) (s : S) (H : Hp) : Prop where
  len : ρ.length = σ.length
  sl : ∀ (i : Nat) w, ρ[i]? = some (.val w) → ∃ v, σ[i]? = some (some v) ∧ Rep Y O H w v
  ow : ∀ (i : Nat) l, ρ[i]? = some (.own l) → ∃ a vs, σ[i]? = some (some (.ref a)) ∧ O a ∧ ¬ Y.R a ∧ H a = some (.lst vs) ∧ Reps Y O H l vs
  dis : ∀ (i j : Nat) l m a, ρ[i]? = some (.own l) → ρ[j]? = some (.own m) → σ[i]? = some (some (.ref a)) → σ[j]? = some (some (.ref a)) → i = j
  rO : ∀ b, Y.R b → O b
  dom : ∀ b, O b → ∃ o, H b = some o
  st : Y.rel s H

/-- what a def promises: as F says -/
def spF (f : Str) (n : Nat) : Sp := fun vs H Q _ => ∃ (a c : Addr) (O : Addr → Prop) (ws : List W) (s : S) (w : W) (s' : S),
  ws.length = n ∧ Reps (mk a c) O H ws vs ∧ (∀ b, (mk a c).R b → O b) ∧ (∀ b, O b → ∃ o, H b = some o) ∧ (mk a c).rel s H ∧ F f ws s = some (w, s') ∧
  ∀ v H', Ext (mk a c) H H' → (mk a c).rel s' H' → Rep (mk a c) O H' w v → Q v H'

structure FnAt (X : Cx) (f : Str) : Prop where
  ex : ∃ (k : Nat) (fa : Addr) (fd : FuncData) (ps : List Str), FnOk X.prog X.w X.K X.mg X.base CX0 k fa fd ps (spF mk F f ps.length) ∧ Room k X.A ∧ X.mg f = some (.ref fa) ∧
    PySem.W.keepIn X.K (.ref fa) = true ∧ Binds X.K fd ps [] ∧ ∀ ws s r, F f ws s = some r → ws.length = ps.length

/-- the names that a def of the program calls: its defs, the module's constants, built-ins -/
structure Tab where
  fl : List Str
  gl : List Str
  bl : List Str
  gcd : Bool
  isq : Bool
  tb : Bool

/-- a code object's table that the heap bears -/
structure TabP (P : Addr) : Prop where
  has : ∀ a c s H, (mk a c).rel s H → GxR.TabG H P
  keep : ∀ a c s H H2, (mk a c).rel s H → Tabd P H H2 → (mk a c).rel s H2
structure CxOk (T : Tab) (X : Cx) : Prop where
  hK : ∀ a c, (mk a c).K = X.K
  calm : X.calm = true
  nd : X.N.Nodup
  rm : Room 0 X.A
  fns : ∀ f ∈ T.fl, FnAt mk F X f
  glb : ∀ x ∈ T.gl, ∃ u v w, G x = some w ∧ X.mg x = some u ∧ RelV v u ∧ ∀ a c O H, Rep (mk a c) O H w v
  blt : ∀ x ∈ T.bl, X.mg x = none
  gcd : T.gcd = true → X.mg "gcd" = some (.builtin "math.gcd")
  isq : T.isq = true → X.mg "isqrt" = some (.builtin "math.isqrt")
  tab : T.tb = true → ∃ c P, GxR.TabB X.base X.mg c P ∧ X.env.code = .ref c ∧ TabP mk P

/-! ### readings -/
/-- a list that nothing else holds -/
def Fresh (Y : Sys S) (O : Addr → Prop) (H H' : Hp) (w : W) (v : V) : Prop := ∀ l, w = .lst l → ∃ p vs, v = .ref p ∧ H p = none ∧ H' p = some (.lst vs) ∧ Reps Y (fun b => O b ∨ b = p) H' l vs
def fresh : IE → Bool
  | .lst _ _ => true
  | .lc _ _ _ _ _ _ _ => true
  | .lc2 _ _ _ _ _ _ _ _ _ _ _ => true
  | .slice _ _ _ _ _ => true
  | .revsl _ _ _ _ _ _ => true
  | .bcall f _ _ _ => f = "list"
  | .bin _ op _ _ => op = .Add
  | _ => false
def tE (e : IE) : TE := fun σ H Q => ∃ (a c : Addr) (O : Addr → Prop) (ρ : List Sl) (s : S) (w : W) (s' : S), ERel (mk a c) O σ ρ s H ∧ evE F G e ρ s = some (w, s') ∧
  ∀ v H', Ext (mk a c) H H' → (mk a c).rel s' H' → Rep (mk a c) O H' w v → (fresh e = true → Fresh (mk a c) O H H' w v) → Q v H'
/-- borrowed: an owned list is read -/
def RepB (Y : Sys S) (O : Addr → Prop) (H : Hp) (w : W) (v : V) : Prop := Rep Y O H w v ∨ ∃ l a vs, w = .lst l ∧ v = .ref a ∧ O a ∧ ¬ Y.R a ∧ H a = some (.lst vs) ∧ Reps Y O H l vs
def tB (e : IE) : TE := fun σ H Q => ∃ (a c : Addr) (O : Addr → Prop) (ρ : List Sl) (s : S) (w : W) (s' : S), ERel (mk a c) O σ ρ s H ∧ orB (lent e ρ) s (evE F G e ρ s) = some (w, s') ∧
  ∀ v H', Ext (mk a c) H H' → (mk a c).rel s' H' → RepB (mk a c) O H' w v → Q v H'
/-- as a test -/
def tT (e : IE) : TT := fun σ H Q => ∃ (a c : Addr) (O : Addr → Prop) (ρ : List Sl) (s : S) (w : W) (s' : S) (r : Bool), ERel (mk a c) O σ ρ s H ∧ evE F G e ρ s = some (w, s') ∧ truW w = some r ∧
  ∀ H', Ext (mk a c) H H' → (mk a c).rel s' H' → Q r H'
def tEs (es : IEs) : TA := fun σ H Q => ∃ (a c : Addr) (O : Addr → Prop) (ρ : List Sl) (s : S) (ws : List W) (s' : S), ERel (mk a c) O σ ρ s H ∧ evEs F G es ρ s = some (ws, s') ∧
  ∀ vs H', Ext (mk a c) H H' → (mk a c).rel s' H' → Reps (mk a c) O H' ws vs → Q vs H'
inductive RepBs (Y : Sys S) (O : Addr → Prop) (H : Hp) : List W → List V → Prop
  | nil : RepBs Y O H [] []
  | cons {w l v vs} : RepB Y O H w v → RepBs Y O H l vs → RepBs Y O H (w :: l) (v :: vs)
def tBs (es : IEs) : TA := fun σ H Q => ∃ (a c : Addr) (O : Addr → Prop) (ρ : List Sl) (s : S) (ws : List W) (s' : S), ERel (mk a c) O σ ρ s H ∧ evBs F G es ρ s = some (ws, s') ∧
  ∀ vs H', Ext (mk a c) H H' → (mk a c).rel s' H' → RepBs (mk a c) O H' ws vs → Q vs H'
end

section
variable {S : Type} {Y : Sys S} {O : Addr → Prop} {σ : L2.St} {ρ : List Sl} {s s' : S} {H H' : Hp} {w : W} {v : V}
theorem ERel.ext (E : ERel Y O σ ρ s H) (h : Ext Y H H') (hs : Y.rel s' H') : ERel Y O σ ρ s' H' where
  len := E.len
  sl := fun i w e => let ⟨v, e1, r⟩ := E.sl i w e; ⟨v, e1, r.ext h E.rO⟩
  ow := fun i l e => let ⟨a, vs, e1, o, n, e2, r⟩ := E.ow i l e; ⟨a, vs, e1, o, n, h.lst n e2, r.ext h E.rO⟩
  dis := E.dis
  rO := E.rO
  dom := fun b o => let ⟨u, e⟩ := E.dom b o; h.some_of e
  st := hs
theorem RepB.ext (h : Ext Y H H') (hR : ∀ b, Y.R b → O b) (r : RepB Y O H w v) : RepB Y O H' w v := by
  rcases r with r | ⟨l, a, vs, rfl, rfl, o, n, e, r⟩
  · exact .inl (r.ext h hR)
  · exact .inr ⟨l, a, vs, rfl, rfl, o, n, h.lst n e, r.ext h hR⟩
theorem RepB.lst {l : List W} (r : RepB Y O H (.lst l) v) (hR : ∀ b, Y.R b → O b) : ∃ a vs, v = .ref a ∧ SqL Y.K H a vs ∧ SqLO Y.R H a vs ∧ Reps Y O H l vs := by
  rcases r with ⟨a, vs, e, q, r⟩ | ⟨l', a, vs, e1, rfl, o, n, e, r⟩
  · exact ⟨a, vs, e, q.sqL, q.less hR, r⟩
  · cases e1
    exact ⟨a, vs, rfl, .of e, ⟨n, .of e⟩, r⟩
theorem RepB.tup {l : List W} (r : RepB Y O H (.tup l) v) : ∃ a vs, v = .ref a ∧ SqT Y.K H a vs ∧ Reps Y O H l vs := by
  rcases r with ⟨a, vs, e, q, r⟩ | ⟨l', a, vs, e1, _⟩
  · exact ⟨a, vs, e, q, r⟩
  · cases e1
theorem RepB.int {i : Int} (r : RepB Y O H (.int i) v) : v = .int i := by
  rcases r with r | ⟨l', a, vs, e1, _⟩
  · exact r
  · cases e1
theorem Fresh.rep (h : Fresh Y O H H' w v) (hd : ∀ b, O b → ∃ o, H b = some o) {l : List W} (e : w = .lst l) : Rep Y O H' w v := by
  obtain ⟨p, vs, rfl, n, e2, r⟩ := h l e
  subst e
  refine ⟨p, vs, rfl, ⟨fun o => ?_, .of e2⟩, r.less fun b o => .inl o⟩
  obtain ⟨o', e3⟩ := hd p o
  rw [n] at e3; cases e3
end
end MP

/-! RV: x[::-1] of a list or a tuple. -/
namespace MP
open PySem PySem.Spec PyProof.Rows L2
theorem rv_places (n : Nat) : Builtin.Slice.sliceAdjust none none (-1) (n : Int) = ((n : Int) - 1, -1) ∧ Builtin.Slice.slicePlaces ((n : Int) - 1) (-1) (-1) = n := by
  refine ⟨rfl, ?_⟩
  unfold Builtin.Slice.slicePlaces
  rw [if_neg (show ¬ ((-1 : Int) > 0) by omega)]
  by_cases h : (n : Int) - 1 > -1
  · rw [if_pos h, show (-(-1) : Int) = 1 from rfl, Int.ediv_one]
    omega
  · rw [if_neg h]
    omega
theorem fm_congr {α β : Type} {f g : α → Option β} : ∀ {l : List α}, (∀ a ∈ l, f a = g a) → l.filterMap f = l.filterMap g
  | [], _ => rfl
  | a :: l, h => by rw [List.filterMap_cons, List.filterMap_cons, h a (List.mem_cons_self ..), fm_congr fun b hb => h b (List.mem_cons_of_mem _ hb)]
theorem rv_pick (l : List Value) : ((List.range l.length).filterMap fun (m : Nat) => l.toArray[((l.length : Int) - 1 + (m : Int) * -1).toNat]?) = l.reverse := by
  have key : ∀ (n : Nat) (l : List Value), l.length = n → ((List.range n).filterMap fun (m : Nat) => l[n - 1 - m]?) = l.reverse := by
    intro n
    induction n with
    | zero =>
      intro l h
      cases l with
      | nil => rfl
      | cons a r => simp at h
    | succ n ih =>
      intro l h
      obtain ⟨r, a, rfl⟩ : ∃ r a, l = r ++ [a] := ⟨l.dropLast, l.getLast (by rintro rfl; cases h), (List.dropLast_concat_getLast _).symm⟩
      rw [List.length_append, List.length_singleton] at h
      have hr : r.length = n := by omega
      rw [List.range_succ_eq_map, List.filterMap_cons, List.filterMap_map]
      have e0 : (r ++ [a])[n + 1 - 1 - 0]? = some a := by rw [List.getElem?_append_right (by omega), show n + 1 - 1 - 0 - r.length = 0 by omega]; rfl
      rw [e0, List.reverse_append, ← ih r hr]
      show a :: _ = a :: _
      congr 1
      apply fm_congr
      intro m hm
      have := List.mem_range.mp hm
      show (r ++ [a])[n + 1 - 1 - (m + 1)]? = _
      rw [List.getElem?_append_left (by omega)]
      congr 1
      omega
  rw [← key l.length l rfl]
  apply fm_congr
  intro m hm
  have := List.mem_range.mp hm
  rw [List.getElem?_toArray]
  congr 1
  omega
section
variable {prog : Program} {w : World} {A : Around} {E : Value → Shared → Prop} {s : Shared}
theorem rv_applied {sl : Addr} {t : Tok} {n : Nat} {Q : Int × Int × Nat → Shared → Prop} (hs : s.heap.IsSliceOf sl .none .none (.int (-1) t))
    (h : Q ((n : Int) - 1, -1, n) s) : wpAny (model prog w) A (Builtin.Slice.sliceApplied (.ref sl) (pure (n : Int))) Q E s := by
  obtain ⟨o, ho, _, hd⟩ := id hs
  unfold Builtin.Slice.sliceApplied Builtin.Slice.sliceFields
  apply wpAny_bind; apply wpAny_bind; apply wpAny_field ho hd (x := .none) rfl; apply wpAny_bind; apply wpAny_field ho hd (x := .none) rfl; apply wpAny_bind; apply wpAny_field ho hd (x := .int (-1) t) rfl; apply wpAny_pure
  apply wpAny_bind; apply HT.slicePart_ (.int (-1) t)
  show wpAny _ _ (if ((-1 : Int) == 0) = true then _ else _) _ _ s
  rw [if_neg (show ¬ (((-1 : Int) == 0) = true) by decide)]
  apply wpAny_bind; apply HT.slicePart_ .none; apply wpAny_bind; apply HT.slicePart_ .none; apply wpAny_bind; apply wpAny_pure
  show wpAny _ _ (match Builtin.Slice.sliceAdjust none none (-1) (n : Int) with | (lo, hi) => pure (lo, (-1 : Int), Builtin.Slice.slicePlaces lo hi (-1))) _ _ s
  rw [(rv_places n).1]
  show wpAny _ _ (pure ((n : Int) - 1, (-1 : Int), Builtin.Slice.slicePlaces ((n : Int) - 1) (-1) (-1))) _ _ s
  rw [(rv_places n).2]
  exact wpAny_pure h
theorem rv_tuple {t sl : Addr} {l : List Value} {k : Tok} {Q : Value → Shared → Prop} (ht : IsTup s.heap t l.toArray) (hs : s.heap.IsSliceOf sl .none .none (.int (-1) k))
    (h : Q (.ref s.heap.objs.size) { s with heap := s.heap.push { cls := .type "tuple", data := .seq l.reverse.toArray } })
    (hsz : l.length ≤ sizeLine) : wpAny (model prog w) A (getItem (.ref t) (.ref sl)) Q E s := by
  have hfit : sizeOk (.seq l.reverse.toArray) := by show l.reverse.toArray.size ≤ sizeLine; rw [List.size_toArray, List.length_reverse]; exact hsz
  obtain ⟨o, ho, hc, hd⟩ := id hs
  have hT : s.TypeIs (.ref sl) "slice" := ⟨o, ho, hc⟩
  unfold getItem
  try with_reducible apply wpAny_holding
  first | (apply wpAny_bind; apply wpAny_sequenceKey ht.typeIs (by decide)) | (apply wpAny_bind; apply wpAny_pure; apply wpAny_bind; apply wpAny_sequenceKey ht.typeIs (by decide))
  refine wpAny_bind (wpAny_callSpecial?_slot (name := Str.ofString "__getitem__") ht.typeIs PyProof.Rows.slot_tuple_getitem (wpAny_call_entry PyProof.Rows.slot_tuple_getitem ht.typeIs entry_tuple_getitem ?_ (args_tuple_getitem _ _)))
  show wpAny _ _ (Builtin.Tuple.tupleItemsOf (.ref t) >>= _) _ _ s
  apply wpAny_bind; apply tupleItemsOf_ ht
  apply wpAny_bind; apply wpAny_typeOf hT
  rw [if_pos (show ((Value.type "slice" == Value.type "slice") = true) by decide)]
  apply wpAny_bind; apply rv_applied hs
  show wpAny _ _ (if (((l.toArray.size : Nat) : Int) - 1 == 0 && (-1 : Int) == 1 && l.toArray.size == l.toArray.size) = true then _ else _) _ _ s
  rw [if_neg (show ¬ ((((l.toArray.size : Nat) : Int) - 1 == 0 && (-1 : Int) == 1 && l.toArray.size == l.toArray.size) = true) by simp), List.size_toArray, rv_pick]
  first
    | exact wpAny_bind (m := Builtin.Tuple.tupleExact _) (wpAny_newObj_type (wpAny_bind (wpAny_pure (wpAny_pure ⟨_, rfl, wpAny_pure h⟩))) hfit)
    | exact wpAny_bind (wpAny_bind (m := Builtin.Tuple.tupleExact _) (wpAny_newObj_type (wpAny_pure (wpAny_pure ⟨_, rfl, wpAny_pure h⟩)) hfit))
    | exact (wpAny_bind (m := Builtin.Tuple.tupleExact _) (wpAny_newObj_type (wpAny_pure ⟨_, rfl, wpAny_pure h⟩) hfit))
    | exact (wpAny_bind (wpAny_bind (m := Builtin.Tuple.tupleExact _) (wpAny_newObj_type (wpAny_pure ⟨_, rfl, wpAny_pure h⟩) hfit)))
end
section
variable {X : Cx}
def tRevA (K : PySem.W.Frag) (te : TE) : TE := fun σ H Q => te σ H fun x H1 => ∃ a xs, x = .ref a ∧ ((SqL K H1 a xs ∧ ∀ p, H1 p = none → Q (.ref p) (upd H1 p (.lst xs.reverse))) ∨ (SqT K H1 a xs ∧ ∀ p, H1 p = none → Q (.ref p) (upd H1 p (.tup xs.reverse))))
theorem pe_revA {e : Expr} {te : TE} {k : Nat} {p1 p2 p3 pos : Pos} (he : PE X e te) : PE X (.Subscript e (.Slice none none (some (.UnaryOp .USub (.Constant (.int 1) k p1) p2)) p3) pos) (tRevA X.K te) := by
  refine ⟨fun pins s σ H Q I h => Subscript_ (thn (he.run pins s σ H _ I h) fun v s1 ⟨x, H1, I1, r1, a, xs, ex, q⟩ => ?_)⟩
  subst ex
  cases r1
  have hm : PO X (some (.UnaryOp .USub (.Constant (.int 1) k p1) p2)) (tPart (tUn (rU fun i => .int (-i)) (tC (.int 1)))) := po_some (pe_un un_neg pe_int)
  refine wpAny_Slice (thn (po_none.run pins s1 σ H1 (fun o G => o = none ∧ G = H1) I1 ⟨rfl, rfl⟩) fun vl s2 ⟨l, G2, J2, pl, el, g2⟩ => ?_)
  subst el g2
  refine thn (po_none.run pins s2 σ G2 (fun o G => o = none ∧ G = G2) J2 ⟨rfl, rfl⟩) fun vu s3 ⟨u, G3, J3, pu, eu, g3⟩ => ?_
  subst eu g3
  refine thn (hm.run pins s3 σ G3 (fun o G => o = some (-1) ∧ G = G3) J3 ⟨1, rfl, -1, rfl, rfl, rfl⟩) fun vs s4 ⟨o, G4, J4, ps, eo, g4⟩ => ?_
  subst eo g4
  have J5 : Inv X pins σ G4 { s4 with heap := s4.heap.push { cls := .type "slice", data := .fields #[vl, vu, vs] } } := J4.kept (t' := s4.toks) fun b ob g => Heap.get?_push_of_some _ g
  show wpAny (model X.prog X.w) X.A (subscriptTail e (.Slice none none (some (.UnaryOp .USub (.Constant (.int 1) k p1) p2)) p3) (.ref a) (.ref s4.heap.objs.size)) (EP X pins σ Q) X.xe { s4 with heap := s4.heap.push { cls := .type "slice", data := .fields #[vl, vu, vs] } }
  rcases q with ⟨hx, q⟩ | ⟨hx, q⟩
  · obtain ⟨its, r, ht, hz⟩ := J5.list hx
    have hlen := r.length
    apply tail_any (ops := [.ref a, .ref s4.heap.objs.size]) ht.isList.typeIs PySem.slot_list_getitem.lookup _ (by with_unfolding_all rfl)
    apply wpAny_getItem_list_slice ht.isList (Heap.IsSliceOf.new _ vl vu vs) pl pu ps (by decide) _ (by rw [List.size_toArray]; omega)
    rw [PySem.W.krv_pick]
    exact ⟨.ref _, _, J5.laid (t' := s4.toks) (o := .lst xs.reverse) (fun b ob g => Heap.get?_push_of_some _ g) (Nat.le_refl _) ⟨by rw [List.length_reverse]; exact hz, _, 0, r.reverse, Heap.get?_push_size _ rfl⟩, rfl, q _ (J5.hok.fresh (Nat.le_refl _))⟩
  · obtain ⟨its, r, ht, hz⟩ := J5.tuple hx
    have hlen := r.length
    cases pl
    cases pu
    cases ps
    rename_i t _
    apply tail_any (ops := [.ref a, .ref s4.heap.objs.size]) ht.typeIs PyProof.Rows.slot_tuple_getitem.lookup _ (by with_unfolding_all rfl)
    refine rv_tuple ht (Heap.IsSliceOf.new _ .none .none (.int (-1) t)) ?_ (by omega)
    exact ⟨.ref _, _, J5.laid (t' := s4.toks) (o := .tup xs.reverse) (fun b ob g => Heap.get?_push_of_some _ g) (Nat.le_refl _) ⟨by rw [List.length_reverse]; exact hz, _, r.reverse, IsTup.new _ _⟩, rfl, q _ (J5.hok.fresh (Nat.le_refl _))⟩
end
end MP

/-! MP4: the operations on values are the program's. -/
namespace MP
open PySem PySem.Spec PyProof.Rows L2
section
variable {S : Type} {Y : Sys S} {O : Addr → Prop} {s : S} {H H' : Hp}
theorem rel_same (r : Y.rel s H) (h : Same H H') : Y.rel s H' := Y.frame s H H' r fun b hb => by
  obtain ⟨xs, e⟩ := Y.isl s H b r hb
  rw [e, h b _ e]
theorem same_laid {p : Addr} {o : HO} (n : H p = none) : Same H (upd H p o) := fun b u e => by
  rw [upd_ne (ne_of_none e n)]; exact e
theorem sqT_new {K : PySem.W.Frag} {p : Addr} {vs : List V} : SqT K (upd H p (.tup vs)) p vs := .of upd_same
/-- a new tuple -/
theorem rep_tup_new {p : Addr} {vs : List V} {l : List W} (hR : ∀ b, Y.R b → O b) (n : H p = none) (r : Reps Y O H l vs) : Rep Y O (upd H p (.tup vs)) (.tup l) (.ref p) :=
  ⟨p, vs, rfl, sqT_new, r.ext (Ext.laid n) hR⟩
/-- a new list -/
theorem rep_lst_new {p : Addr} {vs : List V} {l : List W} (hR : ∀ b, Y.R b → O b) (hd : ∀ b, O b → ∃ o, H b = some o) (n : H p = none) (r : Reps Y O H l vs) : Rep Y O (upd H p (.lst vs)) (.lst l) (.ref p) := by
  refine ⟨p, vs, rfl, ⟨fun o => ?_, .of upd_same⟩, r.ext (Ext.laid n) hR⟩
  obtain ⟨u, e⟩ := hd p o
  rw [n] at e; cases e
/-- new elements lie apart from a new place -/
theorem reps_more {p : Addr} {vs : List V} {l : List W} (n : H p = none) (r : Reps Y O H l vs) : Reps Y (fun b => O b ∨ b = p) H l vs := by
  refine r.step (fun _ _ x => x) fun a us x => ⟨fun z => ?_, x.2⟩
  rcases z with z | z
  · exact x.1 z
  · obtain ⟨_, e⟩ := x
    rcases e with e | ⟨_, e⟩ <;> rw [z, n] at e <;> cases e
theorem fresh_new {p : Addr} {vs : List V} {l : List W} (hR : ∀ b, Y.R b → O b) (n : H p = none) (r : Reps Y O H l vs) : Fresh Y O H (upd H p (.lst vs)) (.lst l) (.ref p) := by
  intro l' e
  cases e
  exact ⟨p, vs, rfl, n, upd_same, (reps_more n r).ext (Ext.laid n) fun b h => .inl (hR b h)⟩
theorem fresh_no {w : W} {v : V} (h : ∀ l, w ≠ .lst l) : Fresh Y O H H' w v := fun l e => absurd e (h l)
/-- fresh behind a first step -/
theorem Fresh.pre {H0 : Hp} {w : W} {v : V} (h : Fresh Y O H H' w v) (e : Ext Y H0 H) : Fresh Y O H0 H' w v := fun l q => by
  obtain ⟨p, vs, rfl, n, e2, r⟩ := h l q
  exact ⟨p, vs, rfl, e.none_of n, e2, r⟩
/-- the object of a list that is read -/
theorem list_obj {X : Cx} {pins : List (Addr × Obj)} {σ : L2.St} {sh : Shared} {a : Addr} {vs : List V} (I : Inv X pins σ H sh) (r : Rd H a (.lst vs)) :
    ∃ (its : List Value) (n : Nat), Vals vs its ∧ sh.heap.get? a = some { cls := .type "list", data := .seq its.toArray n } ∧ vs.length ≤ sizeLine := by
  obtain ⟨z, its, n, rv, e⟩ := r.ok I.hok
  exact ⟨its, n, rv, e, z⟩

/-! ### == -/
mutual
theorem Rep.dp {K : PySem.W.Frag} (hK : Y.K = K) : ∀ (w : W) (v : V), noSt w = true → Rep Y O H w v → Dp K H v (toD w)
  | .non, _, _, h => by cases (show _ = V.non from h); exact .non
  | .bl b, _, _, h => by cases (show _ = V.bl b from h); exact .bl b
  | .int i, _, _, h => by cases (show _ = V.int i from h); exact .int i
  | .str x, _, _, h => by cases (show _ = V.str x from h); exact .str x
  | .st, _, f, _ => by simp [noSt] at f
  | .tup l, _, f, ⟨a, vs, e, q, r⟩ => by cases e; exact .tup (hK ▸ q) (Reps.dp hK l vs (by simpa [noSt] using f) r)
  | .lst l, _, f, ⟨a, vs, e, q, r⟩ => by cases e; exact .lst q.sqL (Reps.dp hK l vs (by simpa [noSt] using f) r)
theorem Reps.dp {K : PySem.W.Frag} (hK : Y.K = K) : ∀ (l : List W) (vs : List V), noSts l = true → Reps Y O H l vs → DpAll K H vs (toDs l)
  | [], _, _, h => by cases (show _ = [] from h); exact .nil
  | w :: l, _, f, ⟨v, r, e, h1, h2⟩ => by
    have f' : noSt w = true ∧ noSts l = true := by simpa [noSts] using f
    cases e; exact .cons (Rep.dp hK w v f'.1 h1) (Reps.dp hK l r f'.2 h2)
end
theorem RepB.dp {K : PySem.W.Frag} (hK : Y.K = K) {w : W} {v : V} (f : noSt w = true) (r : RepB Y O H w v) : Dp K H v (toD w) := by
  rcases r with r | ⟨l, a, vs, rfl, rfl, _, _, e, r⟩
  · exact r.dp hK _ _ f
  · exact .lst (.of e) (r.dp hK _ _ (by simpa [noSt] using f))
end

section
variable {S : Type} {mk : Addr → Addr → Sys S} {X : Cx}
/-! ### two-place operators -/
def rBin (mk : Addr → Addr → Sys S) (op : Operator) : R2 := fun x y H Q => ∃ (a c : Addr) (O : Addr → Prop) (wx wy w : W), Rep (mk a c) O H wx x ∧ Rep (mk a c) O H wy y ∧ binW op wx wy = some w ∧
  (∀ b, (mk a c).R b → O b) ∧ (∀ b, O b → ∃ o, H b = some o) ∧ ∀ v H', Same H H' → Rep (mk a c) O H' w v → (op = .Add → Fresh (mk a c) O H H' w v) → Q v H'
theorem op_bin (hK : ∀ a c, (mk a c).K = X.K) {op : Operator} : OpR X (binaryOp op) (rBin mk op) := by
  intro pins s σ H x y v u Q I rx ry h
  obtain ⟨a, c, O, wx, wy, w, hx, hy, e, hR, hd, q⟩ := h
  unfold binW at e
  split at e
  · cases hx; cases hy; cases e
    exact op_add pins s σ H _ _ v u Q I rx ry ⟨_, _, rfl, rfl, q _ H (Same.refl H) rfl fun _ => fresh_no (by intro l z; cases z)⟩
  · cases hx; cases hy; cases e
    exact op_sub pins s σ H _ _ v u Q I rx ry ⟨_, _, rfl, rfl, q _ H (Same.refl H) rfl fun _ => fresh_no (by intro l z; cases z)⟩
  · cases hx; cases hy
    split at e
    · rename_i hm
      cases e
      exact op_mulW pins s σ H _ _ v u Q I rx ry ⟨_, _, rfl, rfl, hm, q _ H (Same.refl H) rfl fun _ => fresh_no (by intro l z; cases z)⟩
    · cases e
  · cases hx; cases hy
    split at e
    · rename_i hm
      cases e
      obtain ⟨t, rfl⟩ := rx
      obtain ⟨t', rfl⟩ := ry
      exact floordiv_int hm.1 ⟨.int _, H, I.tok _, ⟨_, rfl⟩, q _ H (Same.refl H) rfl fun _ => fresh_no (by intro l z; cases z)⟩ (.inl hm.2)
    · cases e
  · cases hx; cases hy
    split at e
    · rename_i hm
      cases e
      exact op_modN pins s σ H _ _ v u Q I rx ry ⟨_, _, rfl, rfl, hm, q _ H (Same.refl H) rfl fun _ => fresh_no (by intro l z; cases z)⟩
    · cases e
  · obtain ⟨l, vs, rfl, q1, r1⟩ := hx
    obtain ⟨m, us, rfl, q2, r2⟩ := hy
    split at e
    · rename_i hz
      cases e
      cases rx
      cases ry
      obtain ⟨its, n, rv, e1, z1⟩ := list_obj I q1.2
      obtain ⟨its2, n2, rv2, e2, z2⟩ := list_obj I q2.2
      have hl := rv.length
      have hl2 := rv2.length
      have hl3 := r1.length
      have hl4 := r2.length
      refine PySem.P.add_list e1 e2 ?_ (by rw [List.size_toArray, List.size_toArray]; omega)
      have ea : its.toArray ++ its2.toArray = (its ++ its2).toArray := by simp
      rw [ea]
      have n0 := I.fresh
      refine ⟨.ref _, _, I.lnew (t' := s.toks) (rv.append rv2) (by rw [List.length_append]; omega), rfl, q _ _ (same_laid n0) ?_ fun _ => ?_⟩
      · exact rep_lst_new hR hd n0 (r1.append r2)
      · exact fresh_new hR n0 (r1.append r2)
    · cases e
  · obtain ⟨l, vs, rfl, q1, r1⟩ := hx
    obtain ⟨m, us, rfl, q2, r2⟩ := hy
    split at e
    · rename_i hz
      cases e
      have hl3 := r1.length
      have hl4 := r2.length
      refine op_catA pins s σ H _ _ v u Q I rx ry ⟨l, m, vs, us, rfl, rfl, hK a c ▸ q1, hK a c ▸ q2, by omega, fun z => ?_, fun _ z => ?_, fun _ _ p np => ?_⟩
      · subst z
        have : ∀ l : List W, Reps (mk a c) O H l [] → l = [] := fun l h => by cases l with | nil => rfl | cons w l => obtain ⟨_, _, e, _⟩ := h; cases e
        rw [this _ r1] at q
        exact q _ H (Same.refl H) ⟨m, us, rfl, q2, r2⟩ fun _ => fresh_no (by intro l z; cases z)
      · subst z
        have : ∀ l : List W, Reps (mk a c) O H l [] → l = [] := fun l h => by cases l with | nil => rfl | cons w l => obtain ⟨_, _, e, _⟩ := h; cases e
        rw [this _ r2, List.append_nil] at q
        exact q _ H (Same.refl H) ⟨l, vs, rfl, q1, r1⟩ fun _ => fresh_no (by intro l z; cases z)
      · exact q _ _ (same_laid np) (rep_tup_new hR np (r1.append r2)) fun _ => fresh_no (by intro l z; cases z)
    · cases e
  · obtain ⟨l, vs, rfl, q1, r1⟩ := hx
    cases hy
    rename_i xs k
    split at e
    · rename_i hz
      cases e
      cases rx
      obtain ⟨t, rfl⟩ := ry
      obtain ⟨its, n, rv, e1, z1⟩ := list_obj I q1.2
      have hl := rv.length
      have hl3 := r1.length
      have hz3 := hz.2.2
      have hcap : ¬ its.toArray.size * k.toNat > (2 ^ 63 - 1) / 8 := by
        have hlen : its.toArray.size * k.toNat ≤ sizeLine := by rw [List.size_toArray, ← hl, ← hl3]; exact hz3
        have : (sizeLine : Nat) ≤ (2 ^ 63 - 1) / 8 := by decide
        omega
      have hfit : ¬ (!Builtin.List.listFitsIndex k) = true := by
        rw [fitsIndex_both (by omega) (by omega)]
        exact Bool.false_ne_true
      have hlong : ¬ Builtin.List.listTooLong (its.toArray.size * k.toNat) = true := by
        rw [notLongL (by rw [List.size_toArray, ← hl, ← hl3]; exact hz3)]
        exact Bool.false_ne_true
      have hnew : List.foldl (fun x1 x2 => x1 ++ x2) #[] (List.replicate (if its.toArray.isEmpty = true then 0 else k.toNat) its.toArray) = (List.replicate k.toNat its).flatten.toArray := by
        have f0 : ∀ m : Nat, List.foldl (fun x1 x2 => x1 ++ x2) #[] (List.replicate m its.toArray) = (List.replicate m its).flatten.toArray := fun m => by
          have := foldl_rep its m []
          rw [List.nil_append] at this
          exact this
        rw [f0]
        cases its with
        | nil => simp
        | cons a r' => rw [if_neg (by simp)]
      have rr : ∀ m : Nat, Reps (mk a c) O H (List.replicate m xs).flatten (List.replicate m vs).flatten := by
        intro m
        induction m with
        | zero => rfl
        | succ m ih =>
          rw [List.replicate_succ, List.flatten_cons, List.replicate_succ, List.flatten_cons]
          exact r1.append ih
      refine wpAny_binaryOp_repeat_ref (T := "list") (U := "int") (by decide) ⟨_, e1, rfl⟩ (fun s' => typeIs_int s' k t) noFill_list_mul F.fills_int_mul F.slot_int_rmul repeat_list F.slot_int_index.lookup
        (call_meets F.slot_int_rmul (typeIs_int s k t) F.entry_int_rmul (F.args_int_rmul_2 _ _) (int___rmul___int_list k t l its.toArray n)
          ⟨e1, rfl, ⟨_, e1, rfl⟩, call_meets F.slot_list_mul ⟨_, e1, rfl⟩ F.entry_list_mul (F.args_list_mul_2 _ _) (AutoListH.list___mul___list_int_3 l its.toArray n k t hfit hcap hlong) ⟨e1, ?_⟩⟩)
      rw [hnew]
      have n0 := I.fresh
      refine ⟨.ref _, _, I.lnew (t' := s.toks) (rv.rep k.toNat) (by rw [PyProof.Rows.lm_len_rep_flat, Nat.mul_comm, ← hl3]; exact hz3), rfl, q _ _ (same_laid n0) ?_ fun z => by cases z⟩
      exact rep_lst_new hR hd n0 (rr k.toNat)
    · cases e
  · obtain ⟨l, vs, rfl, q1, r1⟩ := hx
    cases hy
    rename_i xs k
    split at e
    · rename_i hz
      obtain ⟨hz1, hz2, hz3, hz4⟩ := hz
      cases e
      have hl3 := r1.length
      have rr : ∀ m : Nat, Reps (mk a c) O H (List.replicate m xs).flatten (List.replicate m vs).flatten := by
        intro m
        induction m with
        | zero => rfl
        | succ m ih =>
          rw [List.replicate_succ, List.flatten_cons, List.replicate_succ, List.flatten_cons]
          exact r1.append ih
      refine op_repT pins s σ H _ _ v u Q I rx ry ⟨l, k, vs, rfl, rfl, hK a c ▸ q1, fun z => hz1 (by
        rw [z] at hl3
        exact List.eq_nil_of_length_eq_zero hl3), hz2, hz3, by omega, fun p np => ?_⟩
      exact q _ _ (same_laid np) (rep_tup_new hR np (rr k.toNat)) fun z => by cases z
    · cases e
  · cases e

/-! ### comparisons -/
def rCmp (mk : Addr → Addr → Sys S) (op : CmpOp) : R2 := fun x y H Q => ∃ (a c : Addr) (O : Addr → Prop) (wx wy : W) (r : Bool), RepB (mk a c) O H wx x ∧ RepB (mk a c) O H wy y ∧ cmpW op wx wy = some r ∧
  (∀ b, (mk a c).R b → O b) ∧ Q (.bl r) H
theorem eqW_some {a b : W} {r : Bool} (e : eqW a b = some r) : noSt a = true ∧ SeqAt.shaped (toD a) = true ∧ noSt b = true ∧ SeqAt.shaped (toD b) = true ∧ r = PyData.eqv (toD a) (toD b) := by
  unfold eqW at e
  split at e
  · rename_i h
    rw [Bool.and_eq_true] at h
    have h1 := h.1
    have h2 := h.2
    unfold cmpable at h1 h2
    rw [Bool.and_eq_true] at h1 h2
    cases e
    exact ⟨h1.1, h1.2, h2.1, h2.2, rfl⟩
  · cases e
theorem inW_some {a b : W} {r : Bool} (e : inW a b = some r) : ∃ l, (b = .lst l ∨ b = .tup l) ∧ noSt a = true ∧ SeqAt.shaped (toD a) = true ∧ noSt b = true ∧ SeqAt.shaped (toD b) = true ∧ r = (toDs l).any fun z => PyData.eqv z (toD a) := by
  have key : ∀ l : List W, (l.any fun z => PyData.eqv (toD z) (toD a)) = (toDs l).any fun z => PyData.eqv z (toD a) := by
    intro l
    induction l with
    | nil => rfl
    | cons w l ih => rw [List.any_cons, ih]; rfl
  unfold inW at e
  split at e
  · rename_i l
    split at e
    · rename_i h
      rw [Bool.and_eq_true] at h
      have h1 := h.1
      have h2 := h.2
      unfold cmpable at h1 h2
      rw [Bool.and_eq_true] at h1 h2
      cases e
      exact ⟨l, .inl rfl, h1.1, h1.2, h2.1, h2.2, key l⟩
    · cases e
  · rename_i l
    split at e
    · rename_i h
      rw [Bool.and_eq_true] at h
      have h1 := h.1
      have h2 := h.2
      unfold cmpable at h1 h2
      rw [Bool.and_eq_true] at h1 h2
      cases e
      exact ⟨l, .inr rfl, h1.1, h1.2, h2.1, h2.2, key l⟩
    · cases e
  · cases e
theorem alk_ok {a b : W} (h : alk a b = true) : noSt a = true ∧ noSt b = true ∧ (toD a).depth ≤ 64 ∧ PySem.W.alike (toD a) (toD b) = true ∧ toD a ≠ .none := by
  unfold alk cmpable at h
  simp only [Bool.and_eq_true, Bool.not_eq_true'] at h
  obtain ⟨⟨⟨⟨h1, h2⟩, h3, h4⟩, h5⟩, h6⟩ := h
  refine ⟨h1, h3, SeqAt.depth_of_shaped h2, h5, fun e => ?_⟩
  cases a <;> simp_all [toD, isNon, noSt]
theorem op_cmpW (hK : ∀ a c, (mk a c).K = X.K) (hr : Room 0 X.A) {op : CmpOp} : OpR X (compareOp op) (rCmp mk op) := by
  intro pins s σ H x y v u Q I rx ry h
  obtain ⟨a, c, O, wx, wy, r, hx, hy, e, hR, q⟩ := h
  have hu : X.A.units + 64 < cLine := hr.units
  have hu2 : X.A.units + 65 < cLine := by have := hr.un; omega
  unfold cmpW at e
  split at e
  · obtain ⟨n1, s1, n2, s2, er⟩ := eqW_some e
    subst er
    exact op_eqD hu pins s σ H x y v u Q I rx ry ⟨_, _, hx.dp (hK a c) n1, hy.dp (hK a c) n2, s1, s2, q⟩
  · rw [Option.map_eq_some_iff] at e
    obtain ⟨r', e, z⟩ := e
    obtain ⟨n1, s1, n2, s2, er⟩ := eqW_some e
    subst er
    cases z
    exact op_neD hu pins s σ H x y v u Q I rx ry ⟨_, _, hx.dp (hK a c) n1, hy.dp (hK a c) n2, s1, s2, q⟩
  · cases e; exact op_lt pins s σ H x y v u Q I rx ry ⟨_, _, hx.int, hy.int, q⟩
  · cases e; exact op_le pins s σ H x y v u Q I rx ry ⟨_, _, hx.int, hy.int, q⟩
  · cases e; exact op_gt pins s σ H x y v u Q I rx ry ⟨_, _, hx.int, hy.int, q⟩
  · cases e; exact op_ge pins s σ H x y v u Q I rx ry ⟨_, _, hx.int, hy.int, q⟩
  · split at e
    · rename_i h
      cases e
      obtain ⟨n1, n2, d1, al, nn⟩ := alk_ok h
      obtain ⟨as, r1⟩ := Dp.reads I _ x v (hx.dp (hK a c) n1) rx
      obtain ⟨bs, r2⟩ := Dp.reads I _ y u (hy.dp (hK a c) n2) ry
      exact PySem.W.lt_data r1 r2 al nn (by have : min (toD wx).depth (toD wy).depth ≤ (toD wx).depth := Nat.min_le_left _ _; omega) ⟨.bl _, H, I, rfl, q⟩
    · cases e
  · split at e
    · rename_i h
      cases e
      obtain ⟨n1, n2, d1, al, nn⟩ := alk_ok h
      obtain ⟨as, r1⟩ := Dp.reads I _ x v (hx.dp (hK a c) n1) rx
      obtain ⟨bs, r2⟩ := Dp.reads I _ y u (hy.dp (hK a c) n2) ry
      exact PySem.W.le_data r1 r2 al nn (by have : min (toD wx).depth (toD wy).depth ≤ (toD wx).depth := Nat.min_le_left _ _; omega) ⟨.bl _, H, I, rfl, q⟩
    · cases e
  · split at e
    · rename_i h
      cases e
      obtain ⟨n1, n2, d1, al, nn⟩ := alk_ok h
      obtain ⟨as, r1⟩ := Dp.reads I _ x v (hx.dp (hK a c) n1) rx
      obtain ⟨bs, r2⟩ := Dp.reads I _ y u (hy.dp (hK a c) n2) ry
      exact PySem.W.gt_data r1 r2 al nn (by have : min (toD wx).depth (toD wy).depth ≤ (toD wx).depth := Nat.min_le_left _ _; omega) ⟨.bl _, H, I, rfl, q⟩
    · cases e
  · split at e
    · rename_i h
      cases e
      obtain ⟨n1, n2, d1, al, nn⟩ := alk_ok h
      obtain ⟨as, r1⟩ := Dp.reads I _ x v (hx.dp (hK a c) n1) rx
      obtain ⟨bs, r2⟩ := Dp.reads I _ y u (hy.dp (hK a c) n2) ry
      exact PySem.W.ge_data r1 r2 al nn (by have : min (toD wx).depth (toD wy).depth ≤ (toD wx).depth := Nat.min_le_left _ _; omega) ⟨.bl _, H, I, rfl, q⟩
    · cases e
  · obtain ⟨l, hb, n1, s1, n2, s2, er⟩ := inW_some e
    subst er
    rcases hb with rfl | rfl
    · exact op_inD hu2 pins s σ H x y v u Q I rx ry ⟨_, _, hx.dp (hK a c) n1, hy.dp (hK a c) n2, s1, s2, q⟩
    · obtain ⟨as, r1⟩ := Dp.reads I _ x v (hx.dp (hK a c) n1) rx
      obtain ⟨bs, r2⟩ := Dp.reads I (.tuple (toDs l)) y u (hy.dp (hK a c) n2) ry
      exact SeqAt.in_tuple_reads r2 r1 (SeqAt.canLay_of_shaped s2) (SeqAt.canLay_of_shaped s1) (room_in_shaped s1 hu2) ⟨.bl _, H, I, rfl, q⟩
  · rw [Option.map_eq_some_iff] at e
    obtain ⟨r', e, z⟩ := e
    obtain ⟨l, hb, n1, s1, n2, s2, er⟩ := inW_some e
    subst er
    cases z
    rcases hb with rfl | rfl
    · exact op_notInD hu2 pins s σ H x y v u Q I rx ry ⟨_, _, hx.dp (hK a c) n1, hy.dp (hK a c) n2, s1, s2, q⟩
    · obtain ⟨as, r1⟩ := Dp.reads I _ x v (hx.dp (hK a c) n1) rx
      obtain ⟨bs, r2⟩ := Dp.reads I (.tuple (toDs l)) y u (hy.dp (hK a c) n2) ry
      exact SeqAt.notIn_tuple_reads r2 r1 (SeqAt.canLay_of_shaped s2) (SeqAt.canLay_of_shaped s1) (room_in_shaped s1 hu2) ⟨.bl _, H, I, rfl, q⟩
  · cases e
    have ey : y = .non := by
      rcases hy with hy | ⟨_, _, _, z, _⟩
      · exact hy
      · cases z
    refine op_isN pins s σ H x y v u Q I rx ry ⟨ey, ?_⟩
    have : decide (x = V.non) = isNon wx := by
      rcases hx with hx | ⟨l, b, vs, rfl, rfl, _⟩
      · cases wx
        · cases hx; rfl
        · cases hx; rfl
        · cases hx; rfl
        · cases hx; rfl
        · obtain ⟨_, _, rfl, _⟩ := hx; rfl
        · obtain ⟨_, _, rfl, _⟩ := hx; rfl
        · cases hx; rfl
      · rfl
    rw [this]; exact q
  · cases e
    have ey : y = .non := by
      rcases hy with hy | ⟨_, _, _, z, _⟩
      · exact hy
      · cases z
    refine op_notN pins s σ H x y v u Q I rx ry ⟨ey, ?_⟩
    have : (!decide (x = V.non)) = (!isNon wx) := by
      rcases hx with hx | ⟨l, b, vs, rfl, rfl, _⟩
      · cases wx
        · cases hx; rfl
        · cases hx; rfl
        · cases hx; rfl
        · cases hx; rfl
        · obtain ⟨_, _, rfl, _⟩ := hx; rfl
        · obtain ⟨_, _, rfl, _⟩ := hx; rfl
        · cases hx; rfl
      · rfl
    rw [this]; exact q
  · cases e
    have e1 : ∀ {b z}, RepB (mk a c) O H (.bl b) z → z = .bl b := by
      intro b z h
      rcases h with h | ⟨_, _, _, z, _⟩
      · exact h
      · cases z
    exact op_isBl pins s σ H x y v u Q I rx ry ⟨_, _, e1 hx, e1 hy, q⟩
  · cases e
    have e1 : ∀ {b z}, RepB (mk a c) O H (.bl b) z → z = .bl b := by
      intro b z h
      rcases h with h | ⟨_, _, _, z, _⟩
      · exact h
      · cases z
    exact op_notBl pins s σ H x y v u Q I rx ry ⟨_, _, e1 hx, e1 hy, q⟩
  · cases e

/-! ### truth -/
theorem tru_of (hK : ∀ a c, (mk a c).K = X.K) {a c : Addr} {O : Addr → Prop} {H : Hp} {w : W} {v : V} {r : Bool} (h : RepB (mk a c) O H w v) (e : truW w = some r) : TruV X.K v H r := by
  rcases h with h | ⟨l, b, vs, rfl, rfl, _, _, eh, rr⟩
  · cases w
    · cases h; cases e; rfl
    · cases h; cases e; rfl
    · cases h; cases e; rfl
    · cases e
    · obtain ⟨p, vs, rfl, q, rr⟩ := h
      cases e
      refine .inr (.inl ⟨vs, hK a c ▸ q, ?_⟩)
      have hl := rr.length
      rename_i l
      cases l <;> cases vs <;> first | rfl | (simp at hl)
    · obtain ⟨p, vs, rfl, q, rr⟩ := h
      cases e
      refine .inl ⟨vs, q.sqL, ?_⟩
      have hl := rr.length
      rename_i l
      cases l <;> cases vs <;> first | rfl | (simp at hl)
    · cases e
  · cases e
    refine .inl ⟨vs, .of eh, ?_⟩
    have hl := rr.length
    cases l <;> cases vs <;> first | rfl | (simp at hl)

/-! ### an item, a part -/
theorem atI_rep {Y : Sys S} {O : Addr → Prop} {H : Hp} {l : List W} {vs : List V} {i : Int} {w : W} (r : Reps Y O H l vs) (e : atI l i = some w) : ∃ v, atI vs i = some v ∧ Rep Y O H w v := by
  unfold atI at e ⊢
  rw [← r.length]
  cases h : ixN l.length i with
  | none => rw [h] at e; cases e
  | some j =>
    rw [h] at e
    exact r.get' e
def rIdx (mk : Addr → Addr → Sys S) : R2 := fun x y H Q => ∃ (a c : Addr) (O : Addr → Prop) (wx wy w : W), RepB (mk a c) O H wx x ∧ Rep (mk a c) O H wy y ∧ idxW wx wy = some w ∧ (∀ b, (mk a c).R b → O b) ∧
  ∀ v, Rep (mk a c) O H w v → Q v H
theorem ix_idx (hK : ∀ a c, (mk a c).K = X.K) : IxR X (rIdx mk) := by
  intro value slice pins s σ H x y v u Q I rx ry h hs
  obtain ⟨a, c, O, wx, wy, w, hx, hy, e, hR, q⟩ := h
  unfold idxW at e
  split at e
  · obtain ⟨p, vs, rfl, q1, _, r⟩ := hx.lst hR
    cases hy
    obtain ⟨z, e2, rz⟩ := atI_rep r e
    exact ix_list value slice pins s σ H _ _ v u Q I rx ry ⟨p, vs, _, z, rfl, rfl, q1.elim .inl fun z => .inr (hK a c ▸ z), e2, q z rz⟩ hs
  · obtain ⟨p, vs, rfl, q1, r⟩ := hx.tup
    cases hy
    obtain ⟨z, e2, rz⟩ := atI_rep r e
    exact ix_tup value slice pins s σ H _ _ v u Q I rx ry ⟨p, vs, _, z, rfl, rfl, hK a c ▸ q1, e2, q z rz⟩ hs
  · cases e
theorem cut_rep {Y : Sys S} {O : Addr → Prop} {H : Hp} {l : List W} {vs : List V} (r : Reps Y O H l vs) (lo hi : Option Int) : Reps Y O H (cutW l lo hi) (cutV vs lo hi) := by
  unfold cutW cutV
  rw [r.length]
  exact Reps.take _ (Reps.drop _ r)
def rSl (mk : Addr → Addr → Sys S) : V → Option Int → Option Int → Hp → VK → Prop := fun x lo hi H Q => ∃ (a c : Addr) (O : Addr → Prop) (wx w : W), RepB (mk a c) O H wx x ∧ sliceW wx lo hi = some w ∧ (∀ b, (mk a c).R b → O b) ∧ (∀ b, O b → ∃ o, H b = some o) ∧
  ∀ v H', Same H H' → Rep (mk a c) O H' w v → Fresh (mk a c) O H H' w v → Q v H'
theorem sl_rep (hK : ∀ a c, (mk a c).K = X.K) : SlR X (rSl mk) := by
  intro pins s σ H x v vl vu lo hi sl Q I rx hs pl pu h
  obtain ⟨a, c, O, wx, w, hx, e, hR, hd, q⟩ := h
  unfold sliceW at e
  split at e
  · obtain ⟨p, vs, rfl, q1, _, r⟩ := hx.lst hR
    cases e
    refine sl_list pins s σ H _ v vl vu _ _ sl Q I rx hs pl pu ⟨p, vs, rfl, q1.elim .inl fun z => .inr (hK a c ▸ z), fun p np => ?_⟩
    exact q _ _ (same_laid np) (rep_lst_new hR hd np (cut_rep r _ _)) (fresh_new hR np (cut_rep r _ _))
  · obtain ⟨p, vs, rfl, q1, r⟩ := hx.tup
    cases e
    refine sl_tupA pins s σ H _ v vl vu _ _ sl Q I rx hs pl pu ⟨p, vs, rfl, hK a c ▸ q1, fun z => ?_, fun _ p' np => ?_⟩
    · refine q _ H (Same.refl H) ?_ (fresh_no (by intro l z; cases z))
      have e1 : ∀ l : List W, vs.length = l.length → cutW l lo hi = l := fun l hl => by
        unfold cutW
        rw [← hl, z.1, z.2, List.drop_zero, Nat.sub_zero]
        exact List.take_of_length_le (by omega)
      rw [e1 _ r.length.symm]
      exact ⟨p, vs, rfl, q1, r⟩
    · exact q _ _ (same_laid np) (rep_tup_new hR np (cut_rep r _ _)) (fresh_no (by intro l z; cases z))
  · cases e
end
end MP

/-! MP5: built-ins, targets, what is walked. -/
namespace MP
open PySem PySem.Spec PyProof.Rows L2
theorem pe_absurd {X : Cx} {e : Expr} {t : TE} (h : ∀ σ H Q, t σ H Q → False) : PE X e t := ⟨fun _ _ σ H Q _ q => (h σ H Q q).elim⟩
theorem pe_mono' {X : Cx} {e : Expr} {t t' : TE} (h : PE X e t) (m : ∀ σ H Q, t' σ H Q → t σ H Q) : PE X e t' := ⟨fun p s σ H Q I q => h.run p s σ H Q I (m σ H Q q)⟩
theorem pt_mono' {X : Cx} {e : Expr} {t t' : TT} (h : PT X e t) (m : ∀ σ H Q, t' σ H Q → t σ H Q) : PT X e t' := ⟨fun p s σ H Q I q => h.run p s σ H Q I (m σ H Q q)⟩
theorem pa_mono' {X : Cx} {e : List Expr} {t t' : TA} (h : PA X e t) (m : ∀ σ H Q, t' σ H Q → t σ H Q) : PA X e t' := ⟨fun pos p s σ H Q I q => h.run pos p s σ H Q I (m σ H Q q)⟩

theorem RepB.bl {S : Type} {Y : Sys S} {O : Addr → Prop} {H : Hp} {b : Bool} {v : V} (r : RepB Y O H (.bl b) v) : v = .bl b := by
  rcases r with r | ⟨_, _, _, z, _⟩
  · exact r
  · cases z
section
variable {S : Type} {mk : Addr → Addr → Sys S} {X : Cx}
/-! ### built-ins -/
def rBu (mk : Addr → Addr → Sys S) (f : Str) : List V → Hp → VK → Prop := fun vs H Q => ∃ (a c : Addr) (O : Addr → Prop) (ws : List W) (w : W), RepBs (mk a c) O H ws vs ∧ builtW f ws = some w ∧ (∀ b, (mk a c).R b → O b) ∧ (∀ b, O b → ∃ o, H b = some o) ∧
  ∀ v H', Same H H' → Rep (mk a c) O H' w v → (f = "list" → Fresh (mk a c) O H H' w v) → Q v H'
theorem RepBs.one {Y : Sys S} {O : Addr → Prop} {H : Hp} {w : W} {vs : List V} (r : RepBs Y O H [w] vs) : ∃ v, vs = [v] ∧ RepB Y O H w v := by
  cases r with | cons r1 r2 => cases r2; exact ⟨_, rfl, r1⟩
theorem RepBs.two {Y : Sys S} {O : Addr → Prop} {H : Hp} {w w' : W} {vs : List V} (r : RepBs Y O H [w, w'] vs) : ∃ v v', vs = [v, v'] ∧ RepB Y O H w v ∧ RepB Y O H w' v' := by
  cases r with | cons r1 r2 => cases r2 with | cons r2 r3 => cases r3; exact ⟨_, _, rfl, r1, r2⟩
theorem intsOf_some : ∀ {l : List W} {ns : List Int}, intsOf l = some ns → l = ns.map W.int
  | [], ns, e => by cases e; rfl
  | .int i :: l, ns, e => by
    unfold intsOf at e
    rw [Option.map_eq_some_iff] at e
    obtain ⟨ms, e1, e2⟩ := e
    cases e2
    rw [intsOf_some e1]; rfl
  | .non :: _, _, e | .bl _ :: _, _, e | .str _ :: _, _, e | .tup _ :: _, _, e | .lst _ :: _, _, e | .st :: _, _, e => by cases e
theorem lst_of (hK : ∀ a c, (mk a c).K = X.K) {a c : Addr} {O : Addr → Prop} {H : Hp} {l : List W} {v : V} (h : RepB (mk a c) O H (.lst l) v) (hR : ∀ b, (mk a c).R b → O b) : ∃ p vs, v = .ref p ∧ SqL X.K H p vs ∧ Reps (mk a c) O H l vs := by
  obtain ⟨p, vs, e, q, _, r⟩ := h.lst hR
  exact ⟨p, vs, e, q.elim .inl fun z => .inr (hK a c ▸ z), r⟩
theorem tup_of (hK : ∀ a c, (mk a c).K = X.K) {a c : Addr} {O : Addr → Prop} {H : Hp} {l : List W} {v : V} (h : RepB (mk a c) O H (.tup l) v) : ∃ p vs, v = .ref p ∧ SqT X.K H p vs ∧ Reps (mk a c) O H l vs := by
  obtain ⟨p, vs, e, q, r⟩ := h.tup
  exact ⟨p, vs, e, hK a c ▸ q, r⟩
theorem cr_len (hK : ∀ a c, (mk a c).K = X.K) : CallR X (.builtin "len") (rBu mk "len") := by
  intro pins s σ H xs us Q I r h
  obtain ⟨a, c, O, ws, w, rb, e, hR, hd, q⟩ := h
  rw [builtW_len] at e
  unfold lenW at e
  split at e
  · obtain ⟨v, rfl, r1⟩ := rb.one
    obtain ⟨p, vs, rfl, q1, rr⟩ := lst_of hK r1 hR
    cases e
    refine call_len_seq pins s σ H _ us Q I r ⟨p, vs, rfl, .inl q1, ?_⟩
    rw [← rr.length]
    exact q _ H (Same.refl H) rfl fun z => absurd z (by decide)
  · obtain ⟨v, rfl, r1⟩ := rb.one
    obtain ⟨p, vs, rfl, q1, rr⟩ := tup_of hK r1
    cases e
    refine call_len_seq pins s σ H _ us Q I r ⟨p, vs, rfl, .inr q1, ?_⟩
    rw [← rr.length]
    exact q _ H (Same.refl H) rfl fun z => absurd z (by decide)
  · cases e
theorem cr_abs : CallR X (.builtin "abs") (rBu mk "abs") := by
  intro pins s σ H xs us Q I r h
  obtain ⟨a, c, O, ws, w, rb, e, hR, hd, q⟩ := h
  rw [builtW_abs] at e
  unfold absW at e
  split at e
  · obtain ⟨v, rfl, r1⟩ := rb.one
    cases r1.int
    cases e
    exact call_abs pins s σ H _ us Q I r ⟨_, rfl, q _ H (Same.refl H) rfl fun z => absurd z (by decide)⟩
  · cases e
theorem cr_int : CallR X (.type "int") (rBu mk "int") := by
  intro pins s σ H xs us Q I r h
  obtain ⟨a, c, O, ws, w, rb, e, hR, hd, q⟩ := h
  rw [builtW_int] at e
  unfold intW at e
  split at e
  · obtain ⟨v, rfl, r1⟩ := rb.one
    cases r1.int
    cases e
    exact call_int1 pins s σ H _ us Q I r (.inl ⟨_, rfl, q _ H (Same.refl H) rfl fun z => absurd z (by decide)⟩)
  · obtain ⟨v, rfl, r1⟩ := rb.one
    cases r1.bl
    cases e
    exact call_int1 pins s σ H _ us Q I r (.inr ⟨_, rfl, q _ H (Same.refl H) rfl fun z => absurd z (by decide)⟩)
  · cases e
theorem cr_tuple (hK : ∀ a c, (mk a c).K = X.K) : CallR X (.type "tuple") (rBu mk "tuple") := by
  intro pins s σ H xs us Q I r h
  obtain ⟨a, c, O, ws, w, rb, e, hR, hd, q⟩ := h
  rw [builtW_tuple] at e
  unfold tupleW at e
  split at e
  · obtain ⟨v, rfl, r1⟩ := rb.one
    obtain ⟨p, vs, rfl, q1, rr⟩ := lst_of hK r1 hR
    cases e
    exact call_tuple_of pins s σ H _ us Q I r ⟨p, vs, rfl, .inl ⟨q1, fun l nl => q _ _ (same_laid nl) (rep_tup_new hR nl rr) fun z => absurd z (by decide)⟩⟩
  · obtain ⟨v, rfl, r1⟩ := rb.one
    obtain ⟨p, vs, rfl, q1, rr⟩ := tup_of hK r1
    cases e
    exact call_tuple_of pins s σ H _ us Q I r ⟨p, vs, rfl, .inr ⟨q1, q _ H (Same.refl H) ⟨p, vs, rfl, (hK a c).symm ▸ q1, rr⟩ fun z => absurd z (by decide)⟩⟩
  · cases e
theorem cr_list (hK : ∀ a c, (mk a c).K = X.K) : CallR X (.type "list") (rBu mk "list") := by
  intro pins s σ H xs us Q I r h
  obtain ⟨a, c, O, ws, w, rb, e, hR, hd, q⟩ := h
  rw [builtW_list] at e
  unfold listW at e
  split at e
  · obtain ⟨v, rfl, r1⟩ := rb.one
    obtain ⟨p, vs, rfl, q1, rr⟩ := lst_of hK r1 hR
    cases e
    exact call_list_of pins s σ H _ us Q I r ⟨p, vs, rfl, .inl q1, fun l nl => q _ _ (same_laid nl) (rep_lst_new hR hd nl rr) fun _ => fresh_new hR nl rr⟩
  · obtain ⟨v, rfl, r1⟩ := rb.one
    obtain ⟨p, vs, rfl, q1, rr⟩ := tup_of hK r1
    cases e
    exact call_list_of pins s σ H _ us Q I r ⟨p, vs, rfl, .inr q1, fun l nl => q _ _ (same_laid nl) (rep_lst_new hR hd nl rr) fun _ => fresh_new hR nl rr⟩
  · cases e
theorem cr_gcdB : CallR X (.builtin "math.gcd") (rBu mk "gcd") := by
  intro pins s σ H xs us Q I r h
  obtain ⟨a, c, O, ws, w, rb, e, hR, hd, q⟩ := h
  rw [builtW_gcd] at e
  unfold gcdW at e
  split at e
  · obtain ⟨v, v', rfl, r1, r2⟩ := rb.two
    cases r1.int
    cases r2.int
    cases e
    exact cr_gcd pins s σ H _ us Q I r ⟨_, _, rfl, q _ H (Same.refl H) rfl fun z => absurd z (by decide)⟩
  · cases e
theorem iter_intTup {prog : Program} {w : World} {A : Around} {E : Value → Shared → Prop} {s : Shared} {l : Addr} {xs : Array (Int × Tok)} {Q : Value → Shared → Prop} (hl : s.heap.IsTuple l (intItems xs))
    (h : ∀ s₂ : Shared, s₂ = { s with heap := s.heap.push { cls := .type "tuple_iterator", data := .fields #[.ref l, .int 0 0] } } →
      (s₂.heap.IsTupleIter s.heap.objs.size l 0 ∧ s₂.heap.IsTuple l (intItems xs)) → (∀ b ∈ [s.heap.objs.size, l], b < s₂.heap.objs.size) → l ≠ s.heap.objs.size → Q (.ref s.heap.objs.size) s₂) :
    wpAny (model prog w) A (pyIter (.ref l)) Q E s := by
  have hlt : l < s.heap.objs.size := by obtain ⟨_, e, _⟩ := hl; exact Heap.lt_size e
  refine wpAny_pyIter_tuple hl (h _ rfl ⟨⟨_, Heap.get?_push_size _ rfl, rfl, rfl⟩, hl.push _⟩ (fun b hb => ?_) (Nat.ne_of_lt hlt))
  show b < (s.heap.push _).objs.size
  rw [Heap.size_push]
  rcases List.mem_cons.mp hb with rfl | hb
  · exact Nat.lt_succ_self _
  · rcases List.mem_cons.mp hb with rfl | hb
    · exact Nat.lt_succ_of_lt hlt
    · cases hb
theorem sum_intTupG {prog : Program} {w : World} {A : Around} {E : Value → Shared → Prop} {s : Shared} {l : Addr} {xs : Array (Int × Tok)} {Q : Value → Shared → Prop} (hh : A.handled = none) (hl : s.heap.IsTuple l (intItems xs))
    (h : ∀ h' tk t', (∀ b o, s.heap.get? b = some o → h'.get? b = some o) → Q (.int (preSum (numAt xs) xs.size) t') { s with heap := h', toks := tk }) :
    wpAny (model prog w) A (call (.builtin "sum") [.ref l]) Q E s := by
  refine call_sum_walkG (iter_intTup hl fun s₂ e st hfp hne => ?_)
  subst e
  refine ⟨_, _, _, _, _, _, numAt xs, rfl, Walks.tuple (A := A.in1) hh _ l hne (intItems xs), st, hfp, (fun _ _ => intItems_at), fun h' tk t' hk => ?_⟩
  have := h h' tk t' (fun b o e => by
    refine hk b o (fun hm => ?_) (Heap.get?_push_of_some _ e)
    rcases List.mem_cons.mp hm with e1 | hm
    · exact absurd (e1 ▸ Heap.lt_size e) (Nat.lt_irrefl _)
    · cases hm)
  simpa [intItems] using this
theorem cr_sumT {X : Cx} (hc : X.calm = true) : CallR X (.builtin "sum") (fun vs H Q => ∃ (a : Addr) (ns : List Int), vs = [V.ref a] ∧ SqT X.K H a (ns.map V.int) ∧ Q (.int ns.sum) H) := by
  intro pins s σ H vs us Q I r h
  obtain ⟨a, ns, rfl, hs, q⟩ := h
  obtain ⟨its, rv, hl, _⟩ := I.tuple hs
  rw [Vals.ref1 r]
  obtain ⟨xs, ex⟩ := AllInts.items (IntsAre.allInts rv.ints)
  have hl' : s.heap.IsTuple a (intItems xs) := by
    rw [← ex]
    exact hl
  have hn := IntsAre.numsOf rv.ints
  rw [show its = its.toArray.toList from rfl, ex] at hn
  refine sum_intTupG (I.ok.hd hc) hl' fun h' tk t' hk => ?_
  rw [preSum_eq, List.take_of_length_le (by simp), ← nums_intItems, hn]
  exact ⟨.int _, H, I.kept hk, ⟨_, rfl⟩, q⟩
theorem cr_sumB (hK : ∀ a c, (mk a c).K = X.K) (hc : X.calm = true) : CallR X (.builtin "sum") (rBu mk "sum") := by
  intro pins s σ H xs us Q I r h
  obtain ⟨a, c, O, ws, w, rb, e, hR, hd, q⟩ := h
  rw [builtW_sum] at e
  unfold sumW at e
  split at e
  · obtain ⟨v, rfl, r1⟩ := rb.one
    obtain ⟨p, vs, rfl, q1, rr⟩ := lst_of hK r1 hR
    rw [Option.map_eq_some_iff] at e
    obtain ⟨ns, e1, e2⟩ := e
    cases e2
    have el := intsOf_some e1
    subst el
    have ev := rr.ints
    subst ev
    exact L2.cr_sum hc pins s σ H _ us Q I r ⟨p, ns, rfl, q1, q _ H (Same.refl H) rfl fun z => absurd z (by decide)⟩
  · obtain ⟨v, rfl, r1⟩ := rb.one
    obtain ⟨p, vs, rfl, q1, rr⟩ := tup_of hK r1
    rw [Option.map_eq_some_iff] at e
    obtain ⟨ns, e1, e2⟩ := e
    cases e2
    have el := intsOf_some e1
    subst el
    have ev := rr.ints
    subst ev
    exact cr_sumT hc pins s σ H _ us Q I r ⟨p, ns, rfl, q1, q _ H (Same.refl H) rfl fun z => absurd z (by decide)⟩
  · cases e
theorem cr_minB (hc : X.calm = true) : CallR X (.builtin "min") (rBu mk "min") := by
  intro pins s σ H xs us Q I r h
  obtain ⟨a, c, O, ws, w, rb, e, hR, hd, q⟩ := h
  rw [builtW_min] at e
  unfold minW at e
  split at e
  · obtain ⟨v, v', rfl, r1, r2⟩ := rb.two
    cases r1.int
    cases r2.int
    cases e
    exact call_min2 hc pins s σ H _ us Q I r ⟨_, _, rfl, q _ H (Same.refl H) rfl fun z => absurd z (by decide)⟩
  · cases e
theorem cr_maxB (hc : X.calm = true) : CallR X (.builtin "max") (rBu mk "max") := by
  intro pins s σ H xs us Q I r h
  obtain ⟨a, c, O, ws, w, rb, e, hR, hd, q⟩ := h
  rw [builtW_max] at e
  unfold maxW at e
  split at e
  · obtain ⟨v, v', rfl, r1, r2⟩ := rb.two
    cases r1.int
    cases r2.int
    cases e
    exact call_max2 hc pins s σ H _ us Q I r ⟨_, _, rfl, q _ H (Same.refl H) rfl fun z => absurd z (by decide)⟩
  · cases e
theorem zip_is {Y : Sys S} {O : Addr → Prop} {H : Hp} : ∀ {l : List W} {vs : List V} {its : List Value}, Reps Y O H l vs → Vals vs its → PySem.W.EachIs (fun (u : Value) (p : V × W) => RelV p.1 u ∧ Rep Y O H p.2 p.1) its (vs.zip l)
  | [], _, _, r, t => by
    cases r
    cases t
    exact .nil
  | w :: l, _, _, r, t => by
    obtain ⟨v, us, rfl, r1, r2⟩ := r
    cases t with
    | cons t1 t2 => exact .cons ⟨t1, r1⟩ (zip_is r2 t2)
theorem zip_vals {Y : Sys S} {O : Addr → Prop} {H : Hp} : ∀ {ps : List (V × W)} {out : List Value}, PySem.W.EachIs (fun (u : Value) (p : V × W) => RelV p.1 u ∧ Rep Y O H p.2 p.1) out ps → Vals (ps.map (·.1)) out ∧ Reps Y O H (ps.map (·.2)) (ps.map (·.1))
  | _, _, .nil => ⟨.nil, rfl⟩
  | _, _, .cons h t => by
    obtain ⟨h1, h2⟩ := zip_vals t
    exact ⟨.cons h.1 h1, ⟨_, _, rfl, h.2, h2⟩⟩
theorem zip_snd : ∀ {vs : List V} {l : List W}, vs.length = l.length → (vs.zip l).map (·.2) = l
  | [], [], _ => rfl
  | v :: vs, w :: l, h => by
    rw [List.zip_cons_cons, List.map_cons, zip_snd (by simpa using h)]
  | [], _ :: _, h => by simp at h
  | _ :: _, [], h => by simp at h
section
variable {prog : Program} {w : World} {A : Around} {E : Value → Shared → Prop} {s : Shared}
theorem collect_tup {l : Addr} {vs : List Value} {Q : List Value → Shared → Prop} (hl : s.heap.IsTuple l vs.toArray)
    (h : Q vs { s with heap := (s.heap.push (seqObj "list" #[] 0)).update s.heap.objs.size (Obj.mapSeq (· ++ vs.toArray)) }) (hsz : vs.length ≤ sizeLine) :
    wpAny (model prog w) A (collect (.ref l)) Q E s := by
  obtain ⟨o, ho, hc, n, hd⟩ := id hl
  unfold collect
  refine wpAny_bind (wpAny_runValue (codeAny_builtin entry_proto_collect' ?_))
  show wpAny _ _ (do again (.builtin "list.__iadd__" ⟨[← newList [], .ref l], []⟩)) _ _ s
  refine wpAny_bind (wpAny_newList (wpAny_pure ⟨Code.quiet_builtin _ (by decide +kernel), codeAny_builtin entry_list_iadd' ?_⟩))
  show wpAny _ _ (Builtin.List.listExtendWith (.ref s.heap.objs.size) (.ref l) (.ref s.heap.objs.size)) _ _ { s with heap := s.heap.push (seqObj "list" #[] 0) }
  unfold Builtin.List.listExtendWith
  have ho' : (s.heap.push (seqObj "list" #[] 0)).get? l = some o := Heap.get?_push_of_some _ ho
  refine wpAny_bind (wpAny_typeOf (T := "tuple") ⟨o, ho', hc⟩ ?_)
  have ht : (Value.type "tuple" == Value.type "tuple") = true := by rfl
  rw [if_pos (by rw [ht]; simp)]
  refine wpAny_bind (listItems_at ho' hd ?_)
  refine wpAny_bind (listItems_at (xs := #[]) (n := 0) (Heap.get?_push_size _ rfl) rfl ?_)
  rw [if_neg (by simp)]
  refine wpAny_bind (listUpdate_at (xs := #[]) (n := 0) (Heap.get?_push_size _ rfl) rfl ?_ (Nat.zero_le _) (by show (#[] ++ vs.toArray).size ≤ sizeLine + 1; simp only [Array.size_append, List.size_toArray, List.length_nil]; omega))
  refine wpAny_pure ?_
  show wpAny (model prog w) A (do
      let o ← load s.heap.objs.size
      match o.data with
      | .seq xs _ => pure xs.toList
      | _ => unsupported "internal:collect") Q E { s with heap := (s.heap.push (seqObj "list" #[] 0)).update s.heap.objs.size (Obj.mapSeq (· ++ vs.toArray)) }
  refine wpAny_bind (wpAny_load (get?_update_seq (Heap.get?_push_size _ rfl) _) ?_)
  show wpAny _ _ (pure ((#[] : Array Value) ++ vs.toArray).toList) Q E _
  refine wpAny_pure ?_
  simpa using h
open PySem.W PySem.Calls in
theorem sorted_tup_of {l : Addr} {vs : List Value} {kw : List (Str × Value)} {Q : Value → Shared → Prop} (hl : s.heap.IsTuple l vs.toArray) (hL : vs.length ≤ sizeLine) (ha1 : argsOk "sorted" ⟨[.ref l], kw⟩) (ha2 : ∀ x, argsOk "list.sort" ⟨[.ref x], kw⟩)
    (body : ∀ E' : Value → Shared → Prop, wpAny (model prog w) A.in1.in1 (Builtin.«list.sort» ⟨[.ref (s.heap.objs.size + 1)], kw⟩) (fun f s' => f = .done (.ret .none) ∧ Q (.ref (s.heap.objs.size + 1)) s') E' { s with heap := copyHeap s.heap vs }) :
    wpAny (model prog w) A (call (.builtin "sorted") [.ref l] kw) Q E s := by
  refine call_function_entry_kw kind_sorted plain_sorted entry_sorted ha1 ?_
  unfold Builtin.«sorted»
  refine wpAny_bind (m := checkCount "sorted" 1 1 _) (wpAny_pure ?_)
  refine wpAny_bind (collect_tup hl ?_ hL)
  refine wpAny_bind (wpAny_newList ?_ hL)
  have hsz : ((s.heap.push (seqObj "list" #[] 0)).update s.heap.objs.size (Obj.mapSeq (· ++ vs.toArray))).objs.size = s.heap.objs.size + 1 := by
    rw [Heap.size_update, size_push']
  show wpAny _ _ _ _ _ { s with heap := copyHeap s.heap vs }
  rw [hsz]
  refine wpAny_bind (wpAny_holding (wpAny_call_entry_kw slot_list_sort ⟨_, copyHeap_at s.heap vs, rfl⟩ entry_list_sort ?body (ha2 _)))
  case body =>
    show wpAny (model prog w) A.in1.in1 (Builtin.«list.sort» ⟨[.ref (s.heap.objs.size + 1)], kw⟩) _ _ _
    refine wpAny_mono (body _) (fun f s' hf => ?_) fun _ _ e => e
    obtain ⟨rfl, hq⟩ := hf
    exact ⟨_, rfl, wpAny_pure ⟨_, rfl, hq⟩⟩
open PySem.W PySem.Calls in
theorem sorted_dataT {β : Type} {vs : List Value} {bs : List β} {enc : β → PyData} {R : Value → β → Prop} {l : Addr} {Q : Value → Shared → Prop} (hl : s.heap.IsTuple l vs.toArray) (e : EachIs R vs bs) (er : EachIs (fun v b => ∃ as, Reads s.heap v (enc b) as) vs bs) (hal : AllAlike (bs.map enc)) (hk : Sortable (bs.map enc)) (hL : bs.length ≤ sizeLine)
    (hu : ∀ b, b ∈ bs → A.units + 2 + (enc b).depth < cLine) (h : ∀ out, out.length = bs.length → EachIs R out (bs.mergeSort (dataLe false enc)) → Q (.ref (s.heap.objs.size + 1)) { s with heap := sortedAll s.heap vs (List.toArray out) }) :
    wpAny (model prog w) A (call (.builtin "sorted") [.ref l]) Q E s := by
  have er' : EachIs (fun v b => ∃ as, Reads (sortingHeap (copyHeap s.heap vs) (s.heap.objs.size + 1) vs) v (enc b) as) vs bs := er.mono fun _ _ ⟨as, r⟩ => ⟨as, PyProof.Rows.Reads.keeps (fun _ _ => sorting_copy_old) r⟩
  have S := SortsAt.data (prog := prog) (w := w) (A := A.in1.in1) (s := { s with heap := sortingHeap (copyHeap s.heap vs) (s.heap.objs.size + 1) vs }) (each_map (R := fun v d => ∃ as, Reads (sortingHeap (copyHeap s.heap vs) (s.heap.objs.size + 1) vs) v d as) enc er') hal hk (bound_map hu)
  exact sorted_tup_of hl (by rw [e.length]; exact hL) (args_sorted1 _) (fun _ => args_list_sort _) fun _ => list_sort_vals (s := { s with heap := copyHeap s.heap vs }) (copyHeap_at s.heap vs) S (by rw [e.length]; exact hL)
    ⟨rfl, h _ (by rw [sortVals_length false rfl]; exact e.length) (sortVals_data false e er' hal)⟩
end
theorem cr_sortedB (hK : ∀ a c, (mk a c).K = X.K) (hr : Room 0 X.A) : CallR X (.builtin "sorted") (rBu mk "sorted") := by
  intro pins s σ H xs us Q I r h
  obtain ⟨a, c, O, ws, w, rb, e, hR, hd, q⟩ := h
  have hu2 : X.A.units + 65 < cLine := by have := hr.un; omega
  rw [builtW_sorted] at e
  unfold sortedW at e
  split at e
  · rename_i l
    split at e
    · rename_i hok
      obtain ⟨v, rfl, r1⟩ := rb.one
      obtain ⟨p, vs, rfl, q1, rr⟩ := lst_of hK r1 hR
      cases e
      unfold sortOk at hok
      simp only [Bool.and_eq_true, decide_eq_true_eq] at hok
      obtain ⟨⟨⟨hl, hns⟩, hal⟩, hso⟩ := hok
      obtain ⟨its, rv, pl, hz⟩ := I.list q1
      have hlen := rr.length
      rw [Vals.ref1 r]
      have hsnd : ∀ p ∈ vs.zip l, p.2 ∈ l := fun p hp => (List.of_mem_zip hp).2
      have e0 := zip_is rr rv
      have er : PySem.W.EachIs (fun (u : Value) (p : V × W) => ∃ as, Reads s.heap u (toD p.2) as) its (vs.zip l) := by
        have key : ∀ {ps : List (V × W)} {out : List Value}, (∀ p ∈ ps, p.2 ∈ l) → PySem.W.EachIs (fun (u : Value) (p : V × W) => RelV p.1 u ∧ Rep (mk a c) O H p.2 p.1) out ps → PySem.W.EachIs (fun (u : Value) (p : V × W) => ∃ as, Reads s.heap u (toD p.2) as) out ps := by
          intro ps out hm h
          induction h with
          | nil => exact .nil
          | cons h t ih =>
            rename_i u p us ps
            have hp := List.all_eq_true.mp hns p.2 (hm p (List.mem_cons_self ..))
            rw [Bool.and_eq_true] at hp
            exact .cons (Dp.reads I _ p.1 u (Rep.dp (hK a c) p.2 p.1 hp.1 h.2) h.1) (ih fun p' hp' => hm p' (List.mem_cons_of_mem _ hp'))
        exact key hsnd e0
      have hAl : PySem.W.AllAlike ((vs.zip l).map fun p => toD p.2) := by
        intro d hd d' hd'
        obtain ⟨p, hp, rfl⟩ := List.mem_map.mp hd
        obtain ⟨p', hp', rfl⟩ := List.mem_map.mp hd'
        exact List.all_eq_true.mp (List.all_eq_true.mp hal p.2 (hsnd p hp)) p'.2 (hsnd p' hp')
      have hSo : PySem.W.Sortable ((vs.zip l).map fun p => toD p.2) := by
        rw [Bool.or_eq_true] at hso
        rcases hso with hso | hso
        · refine .inl fun d hd => ?_
          obtain ⟨p, hp, rfl⟩ := List.mem_map.mp hd
          have := List.all_eq_true.mp hso p.2 (hsnd p hp)
          cases hp2 : p.2 with
          | tup m =>
            rw [hp2] at this
            cases m with
            | nil => simp at this
            | cons x m => exact ⟨toD x, toDs m, by simp only [toD, toDs]⟩
          | _ => rw [hp2] at this; simp at this
        · refine .inr fun d hd => ?_
          obtain ⟨p, hp, rfl⟩ := List.mem_map.mp hd
          have := List.all_eq_true.mp hso p.2 (hsnd p hp)
          have hn := List.all_eq_true.mp hns p.2 (hsnd p hp)
          cases hp2 : p.2 with
          | tup m => rw [hp2] at this; simp at this
          | non => rw [hp2] at this; simp at this
          | st => rw [hp2] at hn; simp [noSt] at hn
          | bl b => simp [toD]
          | int i => simp [toD]
          | str x => simp [toD]
          | lst m => simp [toD]
      have hzl : (vs.zip l).length = l.length := by rw [List.length_zip]; omega
      refine PySem.W.sorted_data (R := fun (u : Value) (p : V × W) => RelV p.1 u ∧ Rep (mk a c) O H p.2 p.1) (enc := fun p => toD p.2) (bs := vs.zip l) pl.isList e0 er hAl hSo (by rw [hzl]; omega) (fun p hp => ?_) fun out ho hout => ?_
      · have hn := List.all_eq_true.mp hns p.2 (hsnd p hp)
        rw [Bool.and_eq_true, decide_eq_true_eq] at hn
        have := hn.2
        show X.A.units + 2 + (toD p.2).depth < cLine
        omega
      · obtain ⟨h1, h2⟩ := zip_vals hout
        have hmap : ((vs.zip l).mergeSort (PySem.W.dataLe false fun p : V × W => toD p.2)).map (·.2) = l.mergeSort (PySem.W.dataLe false toD) := by
          show List.map (fun p : V × W => p.2) (List.mergeSort (vs.zip l) (fun x y => PySem.W.dataLe false toD x.2 y.2)) = _
          rw [List.map_mergeSort (s := PySem.W.dataLe false toD) (fun _ _ _ _ => rfl), zip_snd (by omega)]
        obtain ⟨ep, he'⟩ := PyProof.Rows.sortedAll_at s.heap its out.toArray
        have np : H (s.heap.objs.size + 1) = none := I.hok.fresh (Nat.le_succ _)
        refine ⟨.ref _, upd H (s.heap.objs.size + 1) (.lst _), I.laid (t' := s.toks) (fun _ _ => PyProof.Rows.sortedAll_old) (Nat.le_succ _) ⟨?_, out, ep, h1, by simpa using he'⟩, rfl, q _ _ (same_laid np) ?_ fun z => absurd z (by decide)⟩
        · rw [List.length_map, List.length_mergeSort, hzl]; omega
        · rw [← hmap]
          exact rep_lst_new hR hd np h2
    · cases e
  · rename_i l
    split at e
    · rename_i hok
      obtain ⟨v, rfl, r1⟩ := rb.one
      obtain ⟨p, vs, rfl, q1, rr⟩ := tup_of hK r1
      cases e
      unfold sortOk at hok
      simp only [Bool.and_eq_true, decide_eq_true_eq] at hok
      obtain ⟨⟨⟨hl, hns⟩, hal⟩, hso⟩ := hok
      obtain ⟨its, rv, pl, hz⟩ := I.tuple q1
      have hlen := rr.length
      rw [Vals.ref1 r]
      have hsnd : ∀ p ∈ vs.zip l, p.2 ∈ l := fun p hp => (List.of_mem_zip hp).2
      have e0 := zip_is rr rv
      have er : PySem.W.EachIs (fun (u : Value) (p : V × W) => ∃ as, Reads s.heap u (toD p.2) as) its (vs.zip l) := by
        have key : ∀ {ps : List (V × W)} {out : List Value}, (∀ p ∈ ps, p.2 ∈ l) → PySem.W.EachIs (fun (u : Value) (p : V × W) => RelV p.1 u ∧ Rep (mk a c) O H p.2 p.1) out ps → PySem.W.EachIs (fun (u : Value) (p : V × W) => ∃ as, Reads s.heap u (toD p.2) as) out ps := by
          intro ps out hm h
          induction h with
          | nil => exact .nil
          | cons h t ih =>
            rename_i u p us ps
            have hp := List.all_eq_true.mp hns p.2 (hm p (List.mem_cons_self ..))
            rw [Bool.and_eq_true] at hp
            exact .cons (Dp.reads I _ p.1 u (Rep.dp (hK a c) p.2 p.1 hp.1 h.2) h.1) (ih fun p' hp' => hm p' (List.mem_cons_of_mem _ hp'))
        exact key hsnd e0
      have hAl : PySem.W.AllAlike ((vs.zip l).map fun p => toD p.2) := by
        intro d hd d' hd'
        obtain ⟨p, hp, rfl⟩ := List.mem_map.mp hd
        obtain ⟨p', hp', rfl⟩ := List.mem_map.mp hd'
        exact List.all_eq_true.mp (List.all_eq_true.mp hal p.2 (hsnd p hp)) p'.2 (hsnd p' hp')
      have hSo : PySem.W.Sortable ((vs.zip l).map fun p => toD p.2) := by
        rw [Bool.or_eq_true] at hso
        rcases hso with hso | hso
        · refine .inl fun d hd => ?_
          obtain ⟨p, hp, rfl⟩ := List.mem_map.mp hd
          have := List.all_eq_true.mp hso p.2 (hsnd p hp)
          cases hp2 : p.2 with
          | tup m =>
            rw [hp2] at this
            cases m with
            | nil => simp at this
            | cons x m => exact ⟨toD x, toDs m, by simp only [toD, toDs]⟩
          | _ => rw [hp2] at this; simp at this
        · refine .inr fun d hd => ?_
          obtain ⟨p, hp, rfl⟩ := List.mem_map.mp hd
          have := List.all_eq_true.mp hso p.2 (hsnd p hp)
          have hn := List.all_eq_true.mp hns p.2 (hsnd p hp)
          cases hp2 : p.2 with
          | tup m => rw [hp2] at this; simp at this
          | non => rw [hp2] at this; simp at this
          | st => rw [hp2] at hn; simp [noSt] at hn
          | bl b => simp [toD]
          | int i => simp [toD]
          | str x => simp [toD]
          | lst m => simp [toD]
      have hzl : (vs.zip l).length = l.length := by rw [List.length_zip]; omega
      refine sorted_dataT (R := fun (u : Value) (p : V × W) => RelV p.1 u ∧ Rep (mk a c) O H p.2 p.1) (enc := fun p => toD p.2) (bs := vs.zip l) pl e0 er hAl hSo (by rw [hzl]; omega) (fun p hp => ?_) fun out ho hout => ?_
      · have hn := List.all_eq_true.mp hns p.2 (hsnd p hp)
        rw [Bool.and_eq_true, decide_eq_true_eq] at hn
        have := hn.2
        show X.A.units + 2 + (toD p.2).depth < cLine
        omega
      · obtain ⟨h1, h2⟩ := zip_vals hout
        have hmap : ((vs.zip l).mergeSort (PySem.W.dataLe false fun p : V × W => toD p.2)).map (·.2) = l.mergeSort (PySem.W.dataLe false toD) := by
          show List.map (fun p : V × W => p.2) (List.mergeSort (vs.zip l) (fun x y => PySem.W.dataLe false toD x.2 y.2)) = _
          rw [List.map_mergeSort (s := PySem.W.dataLe false toD) (fun _ _ _ _ => rfl), zip_snd (by omega)]
        obtain ⟨ep, he'⟩ := PyProof.Rows.sortedAll_at s.heap its out.toArray
        have np : H (s.heap.objs.size + 1) = none := I.hok.fresh (Nat.le_succ _)
        refine ⟨.ref _, upd H (s.heap.objs.size + 1) (.lst _), I.laid (t' := s.toks) (fun _ _ => PyProof.Rows.sortedAll_old) (Nat.le_succ _) ⟨?_, out, ep, h1, by simpa using he'⟩, rfl, q _ _ (same_laid np) ?_ fun z => absurd z (by decide)⟩
        · rw [List.length_map, List.length_mergeSort, hzl]; omega
        · rw [← hmap]
          exact rep_lst_new hR hd np h2
    · cases e
  · cases e
theorem cr_isqrtB : CallR X (.builtin "math.isqrt") (rBu mk "isqrt") := by
  intro pins s σ H xs us Q I r h
  obtain ⟨a, c, O, ws, w, rb, e, hR, hd, q⟩ := h
  rw [builtW_isqrt] at e
  unfold isqrtW at e
  split at e
  · rename_i i
    split at e
    · rename_i hi
      obtain ⟨v, rfl, r1⟩ := rb.one
      cases r1.int
      cases e
      have eu : ∃ t, us = [Value.int i t] := by
        cases r with
        | cons r1 r2 =>
          cases r2
          obtain ⟨t, rfl⟩ := r1
          exact ⟨t, rfl⟩
      obtain ⟨t, rfl⟩ := eu
      exact call_function_meets PySem.W.MGF.kind_isqrt PySem.W.MGF.plain_isqrt PySem.W.MGF.entry_isqrt (PySem.W.MGF.args_isqrt _) (PySem.W.mg_run_isqrt i t (by omega) (by omega) (by omega)).meets ⟨.int _, H, I.tok _, ⟨_, rfl⟩, q _ H (Same.refl H) rfl fun z => absurd z (by decide)⟩
    · cases e
  · cases e
theorem flagsW_spec : ∀ {l : List W} {bs : List Bool}, flagsW l = some bs → noSts l = true ∧ PyData.plainAll (toDs l) = true ∧ (∀ x ∈ toDs l, x.fits63) ∧ (toDs l).any PyData.truthy = bs.any id ∧ (toDs l).all PyData.truthy = bs.all id
  | [], bs, h => by
    rw [flagsW] at h
    cases h
    refine ⟨rfl, rfl, fun x hx => ?_, rfl, rfl⟩
    rw [toDs] at hx
    cases hx
  | w :: l, bs, h => by
    have key : ∀ {b : Bool}, (flagsW l).map (b :: ·) = some bs → noSt w = true → (toD w).plain = true → (toD w).fits63 → (toD w).truthy = b → noSts (w :: l) = true ∧ PyData.plainAll (toDs (w :: l)) = true ∧ (∀ x ∈ toDs (w :: l), x.fits63) ∧ (toDs (w :: l)).any PyData.truthy = bs.any id ∧ (toDs (w :: l)).all PyData.truthy = bs.all id := by
      intro b h n1 n2 n3 n4
      rw [Option.map_eq_some_iff] at h
      obtain ⟨cs, e, rfl⟩ := h
      obtain ⟨a1, a2, a3, a4, a5⟩ := flagsW_spec e
      refine ⟨by rw [noSts, n1, a1]; rfl, by rw [toDs, PyData.plainAll, n2, a2]; rfl, fun x hx => ?_, by rw [toDs, List.any_cons, List.any_cons, n4, a4]; rfl, by rw [toDs, List.all_cons, List.all_cons, n4, a5]; rfl⟩
      rw [toDs] at hx
      rcases List.mem_cons.mp hx with rfl | hx
      · exact n3
      · exact a3 x hx
    cases w with
    | bl b => rw [flagsW] at h; exact key h rfl rfl trivial rfl
    | int i => rw [flagsW] at h; exact key h rfl rfl trivial rfl
    | non => rw [flagsW] at h; exact key h rfl rfl trivial rfl
    | str x => rw [flagsW] at h <;> first | cases h | (intros; exact W.noConfusion ‹_›)
    | tup x => rw [flagsW] at h <;> first | cases h | (intros; exact W.noConfusion ‹_›)
    | lst x => rw [flagsW] at h <;> first | cases h | (intros; exact W.noConfusion ‹_›)
    | st => rw [flagsW] at h <;> first | cases h | (intros; exact W.noConfusion ‹_›)
theorem cr_anyB (hK : ∀ a c, (mk a c).K = X.K) (hc : X.calm = true) : CallR X (.builtin "any") (rBu mk "any") := by
  intro pins s σ H xs us Q I r h
  obtain ⟨a, c, O, ws, w, rb, e, hR, hd, q⟩ := h
  rw [builtW_any] at e
  unfold anyW at e
  split at e
  · obtain ⟨v, rfl, r1⟩ := rb.one
    obtain ⟨p, vs, rfl, q1, rr⟩ := lst_of hK r1 hR
    rw [Option.map_eq_some_iff] at e
    obtain ⟨bs, e1, e2⟩ := e
    cases e2
    obtain ⟨a1, a2, a3, a4, a5⟩ := flagsW_spec e1
    obtain ⟨its, rv, pl, hz⟩ := I.list q1
    rw [Vals.ref1 r]
    obtain ⟨as, ra⟩ := Dp.readsAll I _ vs its (Reps.dp (hK a c) _ vs a1 rr) rv
    refine PySem.W.any_list_data (I.ok.hd hc) pl.isList ra a2 a3 fun h' tk k => ?_
    rw [a4]
    exact ⟨.bl _, H, I.kept k, rfl, q _ H (Same.refl H) rfl fun z => absurd z (by decide)⟩
  · obtain ⟨v, rfl, r1⟩ := rb.one
    obtain ⟨p, vs, rfl, q1, rr⟩ := tup_of hK r1
    rw [Option.map_eq_some_iff] at e
    obtain ⟨bs, e1, e2⟩ := e
    cases e2
    obtain ⟨a1, a2, a3, a4, a5⟩ := flagsW_spec e1
    obtain ⟨its, rv, pl, hz⟩ := I.tuple q1
    rw [Vals.ref1 r]
    obtain ⟨as, ra⟩ := Dp.readsAll I _ vs its (Reps.dp (hK a c) _ vs a1 rr) rv
    refine PySem.W.any_tuple_data (I.ok.hd hc) pl ra a2 a3 fun h' tk k => ?_
    rw [a4]
    exact ⟨.bl _, H, I.kept k, rfl, q _ H (Same.refl H) rfl fun z => absurd z (by decide)⟩
  · cases e
theorem cr_allB (hK : ∀ a c, (mk a c).K = X.K) (hc : X.calm = true) : CallR X (.builtin "all") (rBu mk "all") := by
  intro pins s σ H xs us Q I r h
  obtain ⟨a, c, O, ws, w, rb, e, hR, hd, q⟩ := h
  rw [builtW_all] at e
  unfold allW at e
  split at e
  · obtain ⟨v, rfl, r1⟩ := rb.one
    obtain ⟨p, vs, rfl, q1, rr⟩ := lst_of hK r1 hR
    rw [Option.map_eq_some_iff] at e
    obtain ⟨bs, e1, e2⟩ := e
    cases e2
    obtain ⟨a1, a2, a3, a4, a5⟩ := flagsW_spec e1
    obtain ⟨its, rv, pl, hz⟩ := I.list q1
    rw [Vals.ref1 r]
    obtain ⟨as, ra⟩ := Dp.readsAll I _ vs its (Reps.dp (hK a c) _ vs a1 rr) rv
    refine PySem.W.all_list_data (I.ok.hd hc) pl.isList ra a2 a3 fun h' tk k => ?_
    rw [a5]
    exact ⟨.bl _, H, I.kept k, rfl, q _ H (Same.refl H) rfl fun z => absurd z (by decide)⟩
  · obtain ⟨v, rfl, r1⟩ := rb.one
    obtain ⟨p, vs, rfl, q1, rr⟩ := tup_of hK r1
    rw [Option.map_eq_some_iff] at e
    obtain ⟨bs, e1, e2⟩ := e
    cases e2
    obtain ⟨a1, a2, a3, a4, a5⟩ := flagsW_spec e1
    obtain ⟨its, rv, pl, hz⟩ := I.tuple q1
    rw [Vals.ref1 r]
    obtain ⟨as, ra⟩ := Dp.readsAll I _ vs its (Reps.dp (hK a c) _ vs a1 rr) rv
    refine PySem.W.all_tuple_data (I.ok.hd hc) pl ra a2 a3 fun h' tk k => ?_
    rw [a5]
    exact ⟨.bl _, H, I.kept k, rfl, q _ H (Same.refl H) rfl fun z => absurd z (by decide)⟩
  · cases e
/-- a built-in by its name -/
theorem pe_built (hK : ∀ a c, (mk a c).K = X.K) (hc : X.calm = true) (hr : Room 0 X.A) {f : Str} {e : IE} {es : IEs} {pf p : Pos} {t : TA} (hf : f ∈ bnames) (hg : Gl X f) (hm : (f = "gcd" ∧ X.mg "gcd" = some (.builtin "math.gcd")) ∨ (f = "isqrt" ∧ X.mg "isqrt" = some (.builtin "math.isqrt")) ∨ (f ≠ "gcd" ∧ f ≠ "isqrt" ∧ X.mg f = none))
    (ha : PA X (e.ast :: es.ast) t) : PE X (.Call (.Name f pf) (e.ast :: es.ast) [] p) (tCB (rBu mk f) t) := by
  rcases hm with ⟨rfl, hm⟩ | ⟨rfl, hm⟩ | ⟨hn, hn', hm⟩
  · exact pe_callBfun cr_gcdB hg hm ha (by decide) (starEach_ie _ _ _) (backTo_any _ _ _)
  · exact pe_callBfun cr_isqrtB hg hm ha (by decide) (starEach_ie _ _ _) (backTo_any _ _ _)
  simp only [bnames, List.mem_cons, List.not_mem_nil, or_false] at hf
  rcases hf with rfl | rfl | rfl | rfl | rfl | rfl | rfl | rfl | rfl | rfl | rfl | rfl | rfl
  · exact pe_callB (cr_len hK) hg hm PySem.boot_len ha (by decide) (by decide) (starEach_ie _ _ _) (backTo_any _ _ _)
  · exact pe_callB cr_abs hg hm PyProof.Rows.boot_abs ha (by decide) (by decide) (starEach_ie _ _ _) (backTo_any _ _ _)
  · exact pe_callTy cr_int hg hm PyProof.Rows.boot_int ha (by decide) (by decide) (starEach_ie _ _ _) (backTo_any _ _ _)
  · exact pe_callTy (cr_tuple hK) hg hm PyProof.Rows.boot_tuple ha (by decide) (by decide) (starEach_ie _ _ _) (backTo_any _ _ _)
  · exact pe_callTy (cr_list hK) hg hm PyProof.Rows.boot_list ha (by decide) (by decide) (starEach_ie _ _ _) (backTo_any _ _ _)
  · exact pe_callB (cr_sumB hK hc) hg hm PyProof.Rows.boot_sum ha (by decide) (by decide) (starEach_ie _ _ _) (backTo_any _ _ _)
  · exact pe_callB (cr_minB hc) hg hm PyProof.Rows.boot_min ha (by decide) (by decide) (starEach_ie _ _ _) (backTo_any _ _ _)
  · exact pe_callB (cr_maxB hc) hg hm PyProof.Rows.boot_max ha (by decide) (by decide) (starEach_ie _ _ _) (backTo_any _ _ _)
  · exact pe_callB (cr_sortedB hK hr) hg hm PyProof.Rows.boot_sorted ha (by decide) (by decide) (starEach_ie _ _ _) (backTo_any _ _ _)
  · exact absurd rfl hn'
  · exact absurd rfl hn
  · exact pe_callB (cr_anyB hK hc) hg hm PyProof.Rows.boot_any ha (by decide) (by decide) (starEach_ie _ _ _) (backTo_any _ _ _)
  · exact pe_callB (cr_allB hK hc) hg hm PyProof.Rows.boot_all ha (by decide) (by decide) (starEach_ie _ _ _) (backTo_any _ _ _)
end

/-! ### targets -/
mutual
def slotsT : IT → List Nat
  | .name i _ _ => [i]
  | .tup ts _ _ => slotsTs ts
def slotsTs : ITs → List Nat
  | .nil => []
  | .cons t ts => slotsT t ++ slotsTs ts
end
mutual
def wfT (N : List Str) (sc : Scope) : IT → Bool
  | .name i x _ => decide (N[i]? = some x) && locB sc x
  | .tup ts _ _ => wfTs N sc ts
def wfTs (N : List Str) (sc : Scope) : ITs → Bool
  | .nil => true
  | .cons t ts => wfT N sc t && wfTs N sc ts
end
section
variable {S : Type} {Y : Sys S} {O : Addr → Prop} {σ : L2.St} {ρ : List Sl} {s s' : S} {H H' : Hp} {w : W} {v : V}
theorem set_get {α : Type} {l : List α} {i j : Nat} {x y : α} (h : (l.set i x)[j]? = some y) : (i = j ∧ y = x ∧ i < l.length) ∨ (i ≠ j ∧ l[j]? = some y) := by
  by_cases e : i = j
  · subst e
    rw [List.getElem?_set_self' ] at h
    cases q : l[i]? with
    | none => rw [q] at h; simp at h
    | some z =>
      rw [q] at h
      simp at h
      exact .inl ⟨rfl, h.symm, (List.getElem?_eq_some_iff.mp q).1⟩
  · rw [List.getElem?_set_ne e] at h
    exact .inr ⟨e, h⟩
/-- a slot takes a value -/
theorem ERel.set (E : ERel Y O σ ρ s H) (i : Nat) (r : Rep Y O H w v) : ERel Y O (σ.set i (some v)) (ρ.set i (.val w)) s H where
  len := by rw [List.length_set, List.length_set]; exact E.len
  sl := fun j u e => by
    rcases set_get e with ⟨rfl, e, hl⟩ | ⟨hn, e⟩
    · cases e
      exact ⟨v, by rw [List.getElem?_set_self (by rw [← E.len]; exact hl)], r⟩
    · rw [List.getElem?_set_ne hn]; exact E.sl j u e
  ow := fun j l e => by
    rcases set_get e with ⟨rfl, e, hl⟩ | ⟨hn, e⟩
    · cases e
    · rw [List.getElem?_set_ne hn]; exact E.ow j l e
  dis := fun j k l m a e1 e2 e3 e4 => by
    rcases set_get e1 with ⟨_, e, _⟩ | ⟨n1, e1⟩
    · cases e
    rcases set_get e2 with ⟨_, e, _⟩ | ⟨n2, e2⟩
    · cases e
    rw [List.getElem?_set_ne n1] at e3
    rw [List.getElem?_set_ne n2] at e4
    exact E.dis j k l m a e1 e2 e3 e4
  rO := E.rO
  dom := E.dom
  st := E.st
/-- slots forgotten -/
theorem ERel.wipe (E : ERel Y O σ ρ s H) : ∀ vs : List Nat, ERel Y O (L2.wipe σ vs) (wipeS ρ vs) s H
  | [] => E
  | i :: vs => by
    have E := ERel.wipe E vs
    show ERel Y O ((L2.wipe σ vs).set i none) ((wipeS ρ vs).set i .no) s H
    exact {
      len := by rw [List.length_set, List.length_set]; exact E.len
      sl := fun j u e => by
        rcases set_get e with ⟨rfl, e, hl⟩ | ⟨hn, e⟩
        · cases e
        · rw [List.getElem?_set_ne hn]; exact E.sl j u e
      ow := fun j l e => by
        rcases set_get e with ⟨rfl, e, hl⟩ | ⟨hn, e⟩
        · cases e
        · rw [List.getElem?_set_ne hn]; exact E.ow j l e
      dis := fun j k l m a e1 e2 e3 e4 => by
        rcases set_get e1 with ⟨_, e, _⟩ | ⟨n1, e1⟩
        · cases e
        rcases set_get e2 with ⟨_, e, _⟩ | ⟨n2, e2⟩
        · cases e
        rw [List.getElem?_set_ne n1] at e3
        rw [List.getElem?_set_ne n2] at e4
        exact E.dis j k l m a e1 e2 e3 e4
      rO := E.rO
      dom := E.dom
      st := E.st }
theorem wipe_get (σ : L2.St) (j : Nat) : ∀ vs : List Nat, (L2.wipe σ vs)[j]? = if j ∈ vs then (if j < σ.length then some none else none) else σ[j]?
  | [] => by simp [L2.wipe]
  | i :: vs => by
    show ((L2.wipe σ vs).set i none)[j]? = _
    by_cases e : i = j
    · subst e
      rw [List.getElem?_set_self', if_pos (by simp), wipe_get σ i vs]
      by_cases hm : i ∈ vs
      · rw [if_pos hm]; split <;> simp
      · rw [if_neg hm]
        by_cases hl : i < σ.length
        · rw [if_pos hl, List.getElem?_eq_getElem hl]; rfl
        · rw [if_neg hl, List.getElem?_eq_none (by omega)]; rfl
    · rw [List.getElem?_set_ne e, wipe_get σ j vs]
      have : (j ∈ i :: vs) ↔ j ∈ vs := by simp [Ne.symm e]
      simp only [this]
/-- only slots of vs differ -/
theorem wipe_eq {σ σ' : L2.St} {vs : List Nat} (hl : σ'.length = σ.length) (h : ∀ j, j ∉ vs → σ'[j]? = σ[j]?) : L2.wipe σ' vs = L2.wipe σ vs := by
  apply List.ext_getElem?
  intro j
  rw [wipe_get, wipe_get, hl]
  by_cases e : j ∈ vs
  · rw [if_pos e, if_pos e]
  · rw [if_neg e, if_neg e]; exact h j e
end
section
variable {S : Type} (mk : Addr → Addr → Sys S)
def tG (tg : IT) : TG := fun v σ H Q => ∃ (a c : Addr) (O : Addr → Prop) (ρ : List Sl) (s : S) (w : W) (ρ' : List Sl), ERel (mk a c) O σ ρ s H ∧ Rep (mk a c) O H w v ∧ asgT tg w ρ = some ρ' ∧
  ∀ σ', ERel (mk a c) O σ' ρ' s H → σ'.length = σ.length → (∀ j, j ∉ slotsT tg → σ'[j]? = σ[j]?) → Q σ' H
def tGs (ts : ITs) : TGs := fun vs σ H Q => ∃ (a c : Addr) (O : Addr → Prop) (ρ : List Sl) (s : S) (ws : List W) (ρ' : List Sl), ERel (mk a c) O σ ρ s H ∧ Reps (mk a c) O H ws vs ∧ asgT.asgTs ts ws ρ = some ρ' ∧
  ∀ σ', ERel (mk a c) O σ' ρ' s H → σ'.length = σ.length → (∀ j, j ∉ slotsTs ts → σ'[j]? = σ[j]?) → Q σ' H
theorem pg_mono' {X : Cx} {e : Expr} {t t' : TG} (h : PG X e t) (m : ∀ v σ H Q, t' v σ H Q → t v σ H Q) : PG X e t' := ⟨fun p s σ H v u Q I r q => h.run p s σ H v u Q I r (m v σ H Q q)⟩
theorem pgs_mono' {X : Cx} {e : List Expr} {t t' : TGs} (h : PGs X e t) (m : ∀ v σ H Q, t' v σ H Q → t v σ H Q) : PGs X e t' := ⟨fun p s σ H v u Q I r q => h.run p s σ H v u Q I r (m v σ H Q q)⟩
theorem ases_len (env : Env) : ∀ ts : ITs, ((assignEach ts.ast env).findIdx? (·.1) = none) ∧ (assignEach ts.ast env).map (·.2) = ts.ast.map fun e => assign e env
  | .nil => ⟨rfl, rfl⟩
  | .cons t ts => by
    obtain ⟨h1, h2⟩ := ases_len env ts
    have e : assignEach (ITs.cons t ts).ast env = (false, assign t.ast env) :: assignEach ts.ast env := by
      cases t <;> rfl
    rw [e]
    refine ⟨?_, ?_⟩
    · rw [List.findIdx?_cons]; simp [h1]
    · rw [List.map_cons, h2]; rfl
def lenTs : ITs → Nat
  | .nil => 0
  | .cons _ ts => lenTs ts + 1
theorem len_ases (env : Env) : ∀ ts : ITs, (assignEach ts.ast env).length = lenTs ts
  | .nil => rfl
  | .cons t ts => by
    have e : assignEach (ITs.cons t ts).ast env = (false, assign t.ast env) :: assignEach ts.ast env := by
      cases t <;> rfl
    rw [e, List.length_cons, len_ases env ts]; rfl
theorem asgTs_len : ∀ {ts : ITs} {l : List W} {ρ ρ' : List Sl}, asgT.asgTs ts l ρ = some ρ' → l.length = lenTs ts
  | .nil, [], _, _, _ => rfl
  | .nil, _ :: _, _, _, h => by simp [asgT.asgTs] at h
  | .cons _ _, [], _, _, h => by simp [asgT.asgTs] at h
  | .cons t ts, w :: l, ρ, ρ', h => by
    rw [asgT.asgTs, Option.bind_eq_some_iff] at h
    obtain ⟨ρ1, _, h⟩ := h
    rw [List.length_cons, asgTs_len h]; rfl
theorem pg_seq {X : Cx} {es : List Expr} {k : Nat} {pos : Pos} {t : TGs} {n : Nat} (hc : X.calm = true) (h : PGs X es t) (hn : (assignEach es X.env).length = n) (hst : (assignEach es X.env).findIdx? (·.1) = none) :
    PG X (.Tuple es k pos) (fun v σ H Q => gTup X.K n t v σ H Q ∨ gLst X.K n t v σ H Q) :=
  ⟨fun pins s σ H v u Q I r hw => hw.elim (fun h1 => (pg_tup hc h hn hst).1 pins s σ H v u Q I r h1) (fun h2 => (pg_lst hc h hn hst).1 pins s σ H v u Q I r h2)⟩
mutual
theorem sndT {X : Cx} {sc : Scope} (hK : ∀ a c, (mk a c).K = X.K) (hc : X.calm = true) (nd : X.N.Nodup) (so : ScOk X sc) : ∀ (tg : IT), wfT X.N sc tg = true → PG X tg.ast (tG mk tg)
  | .name i x p, wf => by
    unfold wfT at wf
    rw [Bool.and_eq_true] at wf
    obtain ⟨h1, h2⟩ := wf
    have h1 := of_decide_eq_true h1
    obtain ⟨hl, hf⟩ := so.loc x h2
    refine pg_mono' (pg_name nd h1 hl hf) ?_
    intro v σ H Q ⟨a, c, O, ρ, s, w, ρ', E, r, e, q⟩
    unfold asgT at e
    cases e
    exact q _ (E.set i r) (List.length_set ..) fun j hj => List.getElem?_set_ne (fun z => hj (by rw [slotsT, z]; exact List.mem_singleton.mpr rfl))
  | .tup ts k p, wf => by
    unfold wfT at wf
    have ih := sndTs hK hc nd so ts wf
    refine pg_mono' (pg_seq hc ih (n := lenTs ts) (len_ases _ ts) (ases_len _ ts).1) ?_
    intro v σ H Q ⟨a, c, O, ρ, s, w, ρ', E, r, e, q⟩
    unfold asgT at e
    split at e
    · obtain ⟨b, vs, rfl, q1, rr⟩ := r
      exact .inl ⟨b, vs, rfl, hK a c ▸ q1, by rw [← rr.length]; exact asgTs_len e, a, c, O, ρ, s, _, ρ', E, rr, e, fun σ' E' l' d' => q σ' E' l' fun j hj => d' j (by rw [slotsT] at hj; exact hj)⟩
    · obtain ⟨b, vs, rfl, q1, rr⟩ := r
      exact .inr ⟨b, vs, rfl, .inl q1.2, by rw [← rr.length]; exact asgTs_len e, a, c, O, ρ, s, _, ρ', E, rr, e, fun σ' E' l' d' => q σ' E' l' fun j hj => d' j (by rw [slotsT] at hj; exact hj)⟩
    · cases e
theorem sndTs {X : Cx} {sc : Scope} (hK : ∀ a c, (mk a c).K = X.K) (hc : X.calm = true) (nd : X.N.Nodup) (so : ScOk X sc) : ∀ (ts : ITs), wfTs X.N sc ts = true → PGs X ts.ast (tGs mk ts)
  | .nil, _ => by
    refine pgs_mono' pgs_nil ?_
    intro vs σ H Q ⟨a, c, O, ρ, s, ws, ρ', E, r, e, q⟩
    cases ws with
    | nil =>
      cases e
      exact ⟨r, q σ E rfl fun _ _ => rfl⟩
    | cons w l => simp [asgT.asgTs] at e
  | .cons t ts, wf => by
    unfold wfTs at wf
    rw [Bool.and_eq_true] at wf
    have h1 := sndT hK hc nd so t wf.1
    have h2 := sndTs hK hc nd so ts wf.2
    refine pgs_mono' (pgs_cons h1 h2 (by cases t <;> rfl)) ?_
    intro vs σ H Q ⟨a, c, O, ρ, s, ws, ρ', E, r, e, q⟩
    cases ws with
    | nil => simp [asgT.asgTs] at e
    | cons w l =>
      obtain ⟨v, us, rfl, r1, r2⟩ := r
      rw [asgT.asgTs, Option.bind_eq_some_iff] at e
      obtain ⟨ρ1, e1, e2⟩ := e
      refine ⟨v, us, rfl, a, c, O, ρ, s, w, ρ1, E, r1, e1, fun σ1 E1 l1 d1 => ⟨a, c, O, ρ1, s, l, ρ', E1, r2, e2, fun σ2 E2 l2 d2 => q σ2 E2 (l2.trans l1) fun j hj => ?_⟩⟩
      rw [slotsTs, List.mem_append, not_or] at hj
      rw [d2 j hj.2, d1 j hj.1]
end
end
end MP

/-! MP6: what is walked. -/
namespace MP
open PySem PySem.Spec PyProof.Rows L2
section
variable {S : Type}
def Stp (Y : Sys S) (O : Addr → Prop) (H H' : Hp) : Prop := (∀ a vs, SqT Y.K H a vs → SqT Y.K H' a vs) ∧ ∀ a vs, SqLO O H a vs → SqLO O H' a vs
theorem Stp.of_ext {Y : Sys S} {O : Addr → Prop} {H H' : Hp} (h : Ext Y H H') (hR : ∀ b, Y.R b → O b) : Stp Y O H H' := ⟨fun _ _ => h.sqT, fun _ _ => h.sqLO hR⟩
theorem Stp.upd {Y : Sys S} {O : Addr → Prop} {H : Hp} {a : Addr} {xs ys : List V} (hO : O a) (hH : H a = some (.lst xs)) : Stp Y O H (upd H a (.lst ys)) := by
  refine ⟨fun b vs e => ?_, fun b vs e => ?_⟩
  · rcases e with (e | ⟨ob, e⟩) | e
    · have hb : b ≠ a := by intro z; rw [z, hH] at e; cases e
      exact .inl (.inl (by rw [upd_ne hb]; exact e))
    · have hb : b ≠ a := by intro z; rw [z, hH] at e; cases e
      exact .inl (.inr ⟨ob, by rw [upd_ne hb]; exact e⟩)
    · exact .inr e
  · obtain ⟨n, e⟩ := e
    have hb : b ≠ a := by intro z; rw [z] at n; exact n hO
    refine ⟨n, ?_⟩
    unfold Rd at *
    rw [upd_ne hb]; exact e
theorem Stp.refl {Y : Sys S} {O : Addr → Prop} {H : Hp} : Stp Y O H H := ⟨fun _ _ h => h, fun _ _ h => h⟩
theorem Stp.trans {Y : Sys S} {O : Addr → Prop} {H H1 H2 : Hp} (h : Stp Y O H H1) (g : Stp Y O H1 H2) : Stp Y O H H2 := ⟨fun a v e => g.1 a v (h.1 a v e), fun a v e => g.2 a v (h.2 a v e)⟩
theorem Stp.reps {Y : Sys S} {O : Addr → Prop} {H H' : Hp} {l : List W} {vs : List V} (h : Stp Y O H H') (r : Reps Y O H l vs) : Reps Y O H' l vs := r.step h.1 h.2
theorem Stp.rep {Y : Sys S} {O : Addr → Prop} {H H' : Hp} {l : W} {vs : V} (h : Stp Y O H H') (r : Rep Y O H l vs) : Rep Y O H' l vs := r.step h.1 h.2
/-- J walks the items ws: from H on, as long as what it leans on stands -/
def ItOk (Y : Sys S) (O' O1 : Addr → Prop) (ws : List W) (J : It) (H : Hp) : Prop := ∃ supp : Hp → Prop, supp H ∧ (∀ H2 H3, supp H2 → Stp Y O' H2 H3 → Stp Y O1 H2 H3 → supp H3) ∧
  ∀ H2, supp H2 → ∀ i : Nat, (∀ w, ws[i]? = some w → J.go i H2 ∧ ∀ x H3, J.yld i H2 x H3 → Same H2 H3 ∧ Rep Y O' H3 w x) ∧ (ws[i]? = none → J.stop i H2)
theorem reps_O {Y : Sys S} {O O' : Addr → Prop} {H : Hp} {vs : List V} {l : List W} (h : ∀ x, O' x → O x ∨ H x = none) (r : Reps Y O H l vs) : Reps Y O' H l vs := by
  refine r.step (fun _ _ x => x) fun a us x => ⟨fun z => ?_, x.2⟩
  rcases h a z with z | z
  · exact x.1 z
  · obtain ⟨_, e⟩ := x
    rcases e with e | ⟨_, e⟩ <;> rw [z] at e <;> cases e
def RepI (b : Bool) (Y : Sys S) (O : Addr → Prop) (H : Hp) (w : W) (v : V) : Prop := match b with
  | true => RepB Y O H w v
  | false => Rep Y O H w v
theorem RepI.b {b : Bool} {Y : Sys S} {O : Addr → Prop} {H : Hp} {w : W} {v : V} (h : RepI b Y O H w v) : RepB Y O H w v := by
  cases b
  · exact .inl h
  · exact h
theorem RepI.ext {b : Bool} {Y : Sys S} {O : Addr → Prop} {H H' : Hp} {w : W} {v : V} (e : Ext Y H H') (hR : ∀ b, Y.R b → O b) (h : RepI b Y O H w v) : RepI b Y O H' w v := by
  cases b
  · exact Rep.ext e hR h
  · exact RepB.ext e hR h
theorem RepI.lst {b : Bool} {Y : Sys S} {O : Addr → Prop} {H : Hp} {l : List W} {v : V} (h : RepI b Y O H (.lst l) v) : ∃ p vs, v = .ref p ∧ Rd H p (.lst vs) ∧ Reps Y O H l vs ∧
    ∀ O1 : Addr → Prop, (∀ x, O1 x → O x ∨ H x = none) → (b = true → ∀ x, O1 x → Y.R x ∨ H x = none) → ¬ O1 p := by
  have go : Rep Y O H (.lst l) v → ∃ p vs, v = .ref p ∧ Rd H p (.lst vs) ∧ Reps Y O H l vs ∧ ∀ O1 : Addr → Prop, (∀ x, O1 x → O x ∨ H x = none) → (b = true → ∀ x, O1 x → Y.R x ∨ H x = none) → ¬ O1 p := by
    intro ⟨p, vs, e, q, r⟩
    refine ⟨p, vs, e, q.2, r, fun O1 h1 _ z => ?_⟩
    rcases h1 p z with z | z
    · exact q.1 z
    · obtain ⟨_, e⟩ := q
      rcases e with e | ⟨_, e⟩ <;> rw [z] at e <;> cases e
  cases b
  · exact go h
  · rcases h with h | ⟨l', p, vs, e1, rfl, o, n, e, r⟩
    · exact go h
    · cases e1
      refine ⟨p, vs, rfl, .inl e, r, fun O1 _ h2 z => ?_⟩
      rcases h2 rfl p z with z | z
      · exact n z
      · rw [e] at z; cases z
end

/-- a list or a tuple is walked -/
def iAny (K : PySem.W.Frag) (te : TE) : TI := fun σ H R => te σ H fun x H1 => ∃ a, x = .ref a ∧ (((∃ xs, SqL K H1 a xs) ∧ R (Itl K a) H1) ∨ ((∃ xs, SqT K H1 a xs) ∧ R (Itt K a) H1))
theorem pi_any {X : Cx} {tg l : Expr} {tl : TE} (hl : PE X l tl) : PI X tg l (iAny X.K tl) := by
  refine ⟨fun pins s σ H R I h => ?_⟩
  refine thn (hl.run pins s σ H _ I h) fun v s1 ⟨x, H1, I1, r1, q1⟩ => ?_
  obtain ⟨a, e, q1⟩ := q1
  subst e
  cases r1
  rcases q1 with ⟨⟨xs, hq⟩, q⟩ | ⟨⟨xs, hq⟩, q⟩
  · obtain ⟨its, rv, p, hz⟩ := I1.list hq
    refine wpAny_pyIter_list p.isList ?_
    refine ⟨s1.heap.objs.size, [s1.heap.objs.size], _, _, H1, rfl, I1.kept (t' := s1.toks) fun b o e => Heap.get?_push_of_some _ e, turn_list a _, ⟨_, Heap.get?_push_size _ rfl, rfl, rfl⟩, fun b hb => ?_, q⟩
    have e : b = s1.heap.objs.size := by simpa using hb
    subst e
    exact I1.fpOk (Nat.le_refl _) (I1.hok.fresh (Nat.le_refl _))
  · obtain ⟨its, rv, p, hz⟩ := I1.tuple hq
    refine wpAny_pyIter_tuple (show s1.heap.IsTuple a its.toArray from p) ?_
    refine ⟨s1.heap.objs.size, [s1.heap.objs.size], _, _, H1, rfl, I1.kept (t' := s1.toks) fun b o e => Heap.get?_push_of_some _ e, turn_tuple a _, ⟨_, Heap.get?_push_size _ rfl, rfl, rfl⟩, fun b hb => ?_, q⟩
    have e : b = s1.heap.objs.size := by simpa using hb
    subst e
    exact I1.fpOk (Nat.le_refl _) (I1.hok.fresh (Nat.le_refl _))
theorem pi_mono' {X : Cx} {tg e : Expr} {t t' : TI} (h : PI X tg e t) (m : ∀ σ H R, t' σ H R → t σ H R) : PI X tg e t' := ⟨fun p s σ H R I q => h.run p s σ H R I (m σ H R q)⟩

section
variable {S : Type} (mk : Addr → Addr → Sys S) (F : Str → List W → S → Option (W × S)) (G : Str → Option W)
/-- an operand of a walk -/
def tOpd (b : Bool) (e : IE) : TE := fun σ H Q => ∃ (a c : Addr) (O : Addr → Prop) (ρ : List Sl) (s : S) (w : W) (s' : S), ERel (mk a c) O σ ρ s H ∧ orB (if b then lent e ρ else none) s (evE F G e ρ s) = some (w, s') ∧
  ∀ v H', Ext (mk a c) H H' → (mk a c).rel s' H' → RepI b (mk a c) O H' w v → Q v H'
def tI (b : Bool) (it : II) : TI := fun σ H R => ∃ (a c : Addr) (O : Addr → Prop) (ρ : List Sl) (s : S) (ws : List W) (s' : S), ERel (mk a c) O σ ρ s H ∧ evI F G b it ρ s = some (ws, s') ∧
  ∀ J H', Ext (mk a c) H H' → (mk a c).rel s' H' → (∀ O' O1 : Addr → Prop, (∀ x, O' x → O x ∨ H' x = none) → (∀ b, (mk a c).R b → O' b) → (∀ x, O1 x → O' x) → (b = true → ∀ x, O1 x → (mk a c).R x ∨ H' x = none) → ItOk (mk a c) O' O1 ws J H') → R J H'
theorem opd_of {X : Cx} {e : IE} (h1 : PE X e.ast (tE mk F G e)) (h2 : PE X e.ast (tB mk F G e)) (b : Bool) : PE X e.ast (tOpd mk F G b e) := by
  cases b
  · refine pe_mono' h1 fun σ H Q ⟨a, c, O, ρ, s, w, s', E, e1, q⟩ => ⟨a, c, O, ρ, s, w, s', E, e1, fun v H' x y r _ => q v H' x y r⟩
  · refine pe_mono' h2 fun σ H Q ⟨a, c, O, ρ, s, w, s', E, e1, q⟩ => ⟨a, c, O, ρ, s, w, s', E, e1, fun v H' x y r => q v H' x y r⟩
section
variable {mk F G} {X : Cx}
/-- walks over the list at p -/
theorem it_list (hK : ∀ a c, (mk a c).K = X.K) {a c : Addr} {O O' O1 : Addr → Prop} {H : Hp} {l : List W} {p : Addr} {vs : List V} (q : Rd H p (.lst vs)) (r : Reps (mk a c) O H l vs) (h1 : ∀ x, O' x → O x ∨ H x = none) (n : ¬ O1 p) :
    ItOk (mk a c) O' O1 l (Itl X.K p) H := by
  refine ⟨fun H2 => SqLO O1 H2 p vs ∧ Reps (mk a c) O' H2 l vs, ⟨⟨n, q⟩, reps_O h1 r⟩, fun H2 H3 ⟨x, y⟩ s1 s2 => ⟨s2.2 _ _ x, s1.reps y⟩, fun H2 ⟨x, y⟩ i => ⟨fun w e => ?_, fun e => ?_⟩⟩
  · obtain ⟨v, e1, r1⟩ := y.get' e
    refine ⟨⟨vs, v, x.sqL, e1⟩, fun z H3 ⟨e2, e3⟩ => ?_⟩
    subst e2
    rw [e3 vs x.sqL] at e1
    cases e1
    exact ⟨Same.refl _, r1⟩
  · refine ⟨vs, x.sqL, ?_⟩
    rw [← y.length]
    exact List.getElem?_eq_none_iff.mp e
theorem it_tuple (hK : ∀ a c, (mk a c).K = X.K) {a c : Addr} {O O' O1 : Addr → Prop} {H : Hp} {l : List W} {p : Addr} {vs : List V} (q : SqT X.K H p vs) (r : Reps (mk a c) O H l vs) (h1 : ∀ x, O' x → O x ∨ H x = none) :
    ItOk (mk a c) O' O1 l (Itt X.K p) H := by
  refine ⟨fun H2 => SqT X.K H2 p vs ∧ Reps (mk a c) O' H2 l vs, ⟨q, reps_O h1 r⟩, fun H2 H3 ⟨x, y⟩ s1 s2 => ⟨hK a c ▸ s1.1 _ _ ((hK a c).symm ▸ x), s1.reps y⟩, fun H2 ⟨x, y⟩ i => ⟨fun w e => ?_, fun e => ?_⟩⟩
  · obtain ⟨v, e1, r1⟩ := y.get' e
    refine ⟨⟨vs, v, x, e1⟩, fun z H3 ⟨e2, e3⟩ => ?_⟩
    subst e2
    rw [e3 vs x] at e1
    cases e1
    exact ⟨Same.refl _, r1⟩
  · refine ⟨vs, x, ?_⟩
    rw [← y.length]
    exact List.getElem?_eq_none_iff.mp e
theorem it_range {Y : Sys S} {O' O1 : Addr → Prop} {H : Hp} (lo : Int) (n : Nat) : ItOk Y O' O1 ((List.range n).map fun i => W.int (lo + (i : Nat))) (Itr lo n) H := by
  refine ⟨fun _ => True, trivial, fun _ _ _ _ _ => trivial, fun H2 _ i => ⟨fun w e => ?_, fun e => ?_⟩⟩
  · rw [List.getElem?_map] at e
    cases h : (List.range n)[i]? with
    | none => rw [h] at e; cases e
    | some j =>
      rw [h] at e
      obtain ⟨h1, h2⟩ := List.getElem?_eq_some_iff.mp h
      rw [List.getElem_range] at h2
      rw [List.length_range] at h1
      subst h2
      cases e
      refine ⟨h1, fun x H3 ⟨e1, e2⟩ => ?_⟩
      subst e1
      exact ⟨Same.refl _, e2⟩
  · rw [List.getElem?_eq_none_iff, List.length_map, List.length_range] at e
    exact e
theorem it_down {Y : Sys S} {O' O1 : Addr → Prop} {H : Hp} (hi : Int) (n : Nat) : ItOk Y O' O1 ((List.range n).map fun i => W.int (hi - (i : Nat))) (Itc hi (-1) n) H := by
  refine ⟨fun _ => True, trivial, fun _ _ _ _ _ => trivial, fun H2 _ i => ⟨fun w e => ?_, fun e => ?_⟩⟩
  · rw [List.getElem?_map] at e
    cases h : (List.range n)[i]? with
    | none => rw [h] at e; cases e
    | some j =>
      rw [h] at e
      obtain ⟨h1, h2⟩ := List.getElem?_eq_some_iff.mp h
      rw [List.getElem_range] at h2
      rw [List.length_range] at h1
      subst h2
      cases e
      refine ⟨h1, fun x H3 ⟨e1, e2⟩ => ?_⟩
      subst e1
      refine ⟨Same.refl _, ?_⟩
      rw [e2]
      show V.int _ = V.int _
      congr 1
      omega
  · rw [List.getElem?_eq_none_iff, List.length_map, List.length_range] at e
    exact e
theorem zip_get {α β : Type} {l : List α} {m : List β} {γ : Type} {f : α → β → γ} {i : Nat} {w : γ} (e : (List.zipWith f l m)[i]? = some w) : ∃ u v, l[i]? = some u ∧ m[i]? = some v ∧ w = f u v := by
  rw [List.getElem?_zipWith] at e
  cases h : l[i]? with
  | none => rw [h] at e; cases e
  | some u =>
    cases h2 : m[i]? with
    | none => rw [h, h2] at e; cases e
    | some v => rw [h, h2] at e; cases e; exact ⟨u, v, rfl, rfl, rfl⟩
theorem zip_none {α β γ : Type} {l : List α} {m : List β} {f : α → β → γ} {i : Nat} (e : (List.zipWith f l m)[i]? = none) : l.length ≤ i ∨ m.length ≤ i := by
  rw [List.getElem?_eq_none_iff, List.length_zipWith] at e
  omega
theorem rep_pair {Y : Sys S} {O' : Addr → Prop} {H : Hp} {T : Addr} {x y : V} {u v : W} (hR : ∀ b, Y.R b → O' b) (nT : H T = none) (r1 : Rep Y O' H u x) (r2 : Rep Y O' H v y) : Rep Y O' (upd H T (.tup [x, y])) (.tup [u, v]) (.ref T) :=
  rep_tup_new hR nT ⟨x, [y], rfl, r1, y, [], rfl, r2, rfl⟩
theorem it_zipL (hK : ∀ a c, (mk a c).K = X.K) {a c : Addr} {O O' O1 : Addr → Prop} {H : Hp} {l m : List W} {p p2 : Addr} {vs us : List V} (q : Rd H p (.lst vs)) (r : Reps (mk a c) O H l vs) (q2 : Rd H p2 (.lst us)) (r2 : Reps (mk a c) O H m us)
    (h1 : ∀ x, O' x → O x ∨ H x = none) (hR : ∀ b, (mk a c).R b → O' b) (n : ¬ O1 p) (n2 : ¬ O1 p2) :
    ItOk (mk a c) O' O1 (List.zipWith (fun u v => W.tup [u, v]) l m) (Itz X.K p p2) H := by
  refine ⟨fun H2 => (SqLO O1 H2 p vs ∧ Reps (mk a c) O' H2 l vs) ∧ SqLO O1 H2 p2 us ∧ Reps (mk a c) O' H2 m us, ⟨⟨⟨n, q⟩, reps_O h1 r⟩, ⟨n2, q2⟩, reps_O h1 r2⟩,
    fun H2 H3 ⟨⟨x, y⟩, x2, y2⟩ s1 s2 => ⟨⟨s2.2 _ _ x, s1.reps y⟩, s2.2 _ _ x2, s1.reps y2⟩, fun H2 ⟨⟨x, y⟩, x2, y2⟩ i => ⟨fun w e => ?_, fun e => ?_⟩⟩
  · obtain ⟨u, v, e1, e2, rfl⟩ := zip_get e
    obtain ⟨z1, f1, g1⟩ := y.get' e1
    obtain ⟨z2, f2, g2⟩ := y2.get' e2
    refine ⟨⟨vs, us, z1, z2, x.sqL, x2.sqL, f1, f2⟩, fun z H3 ⟨T, x', y', ez, nT, eH, k1, k2⟩ => ?_⟩
    subst ez eH
    rw [k1 vs x.sqL] at f1
    rw [k2 us x2.sqL] at f2
    cases f1
    cases f2
    exact ⟨same_laid nT, rep_pair hR nT g1 g2⟩
  · refine ⟨vs, us, x.sqL, x2.sqL, ?_⟩
    rw [← y.length, ← y2.length]
    exact zip_none e
theorem it_zipT (hK : ∀ a c, (mk a c).K = X.K) {a c : Addr} {O O' O1 : Addr → Prop} {H : Hp} {l m : List W} {p p2 : Addr} {vs us : List V} (q : SqT X.K H p vs) (r : Reps (mk a c) O H l vs) (q2 : SqT X.K H p2 us) (r2 : Reps (mk a c) O H m us)
    (h1 : ∀ x, O' x → O x ∨ H x = none) (hR : ∀ b, (mk a c).R b → O' b) :
    ItOk (mk a c) O' O1 (List.zipWith (fun u v => W.tup [u, v]) l m) (RZ.ItzT X.K p p2) H := by
  refine ⟨fun H2 => (SqT X.K H2 p vs ∧ Reps (mk a c) O' H2 l vs) ∧ SqT X.K H2 p2 us ∧ Reps (mk a c) O' H2 m us, ⟨⟨q, reps_O h1 r⟩, q2, reps_O h1 r2⟩,
    fun H2 H3 ⟨⟨x, y⟩, x2, y2⟩ s1 s2 => ⟨⟨hK a c ▸ s1.1 _ _ ((hK a c).symm ▸ x), s1.reps y⟩, hK a c ▸ s1.1 _ _ ((hK a c).symm ▸ x2), s1.reps y2⟩, fun H2 ⟨⟨x, y⟩, x2, y2⟩ i => ⟨fun w e => ?_, fun e => ?_⟩⟩
  · obtain ⟨u, v, e1, e2, rfl⟩ := zip_get e
    obtain ⟨z1, f1, g1⟩ := y.get' e1
    obtain ⟨z2, f2, g2⟩ := y2.get' e2
    refine ⟨⟨vs, us, z1, z2, x, x2, f1, f2⟩, fun z H3 ⟨T, x', y', ez, nT, eH, k1, k2⟩ => ?_⟩
    subst ez eH
    rw [k1 vs x] at f1
    rw [k2 us x2] at f2
    cases f1
    cases f2
    exact ⟨same_laid nT, rep_pair hR nT g1 g2⟩
  · refine ⟨vs, us, x, x2, ?_⟩
    rw [← y.length, ← y2.length]
    exact zip_none e
def SqO (Y : Sys S) (O1 : Addr → Prop) (t : Bool) (H : Hp) (p : Addr) (vs : List V) : Prop := if t = true then SqT Y.K H p vs else SqLO O1 H p vs
theorem SqO.b {Y : Sys S} {O1 : Addr → Prop} {t : Bool} {H : Hp} {p : Addr} {vs : List V} (x : SqO Y O1 t H p vs) : SqB Y.K t H p vs := by
  cases t with
  | true => exact x
  | false => exact (show SqLO O1 H p vs from x).sqL
theorem it_zipB (hK : ∀ a c, (mk a c).K = X.K) {a c : Addr} {O O' O1 : Addr → Prop} {H : Hp} {l m : List W} {p p2 : Addr} {vs us : List V} {t u : Bool} (q : SqO (mk a c) O1 t H p vs) (r : Reps (mk a c) O H l vs) (q2 : SqO (mk a c) O1 u H p2 us) (r2 : Reps (mk a c) O H m us)
    (h1 : ∀ x, O' x → O x ∨ H x = none) (hR : ∀ b, (mk a c).R b → O' b) :
    ItOk (mk a c) O' O1 (List.zipWith (fun u v => W.tup [u, v]) l m) (ItzB X.K t u p p2) H := by
  have keep : ∀ {t : Bool} {H2 H3 : Hp} {p : Addr} {vs : List V}, SqO (mk a c) O1 t H2 p vs → Stp (mk a c) O' H2 H3 → Stp (mk a c) O1 H2 H3 → SqO (mk a c) O1 t H3 p vs := fun {t H2 H3 p vs} x s1 s2 => by
    cases t with
    | true => exact s1.1 _ _ x
    | false => exact s2.2 _ _ x
  have un : ∀ {t : Bool} {H2 : Hp} {p : Addr} {vs : List V}, SqO (mk a c) O1 t H2 p vs → SqB X.K t H2 p vs := fun x => by
    have := x.b
    rw [hK a c] at this
    exact this
  refine ⟨fun H2 => (SqO (mk a c) O1 t H2 p vs ∧ Reps (mk a c) O' H2 l vs) ∧ SqO (mk a c) O1 u H2 p2 us ∧ Reps (mk a c) O' H2 m us, ⟨⟨q, reps_O h1 r⟩, q2, reps_O h1 r2⟩,
    fun H2 H3 ⟨⟨x, y⟩, x2, y2⟩ s1 s2 => ⟨⟨keep x s1 s2, s1.reps y⟩, keep x2 s1 s2, s1.reps y2⟩, fun H2 ⟨⟨x, y⟩, x2, y2⟩ i => ⟨fun w e => ?_, fun e => ?_⟩⟩
  · obtain ⟨u, v, e1, e2, rfl⟩ := zip_get e
    obtain ⟨z1, f1, g1⟩ := y.get' e1
    obtain ⟨z2, f2, g2⟩ := y2.get' e2
    refine ⟨⟨vs, us, z1, z2, un x, un x2, f1, f2⟩, fun z H3 ⟨T, x', y', ez, nT, eH, k1, k2⟩ => ?_⟩
    subst ez eH
    rw [k1 vs (un x)] at f1
    rw [k2 us (un x2)] at f2
    cases f1
    cases f2
    exact ⟨same_laid nT, rep_pair hR nT g1 g2⟩
  · refine ⟨vs, us, un x, un x2, ?_⟩
    rw [← y.length, ← y2.length]
    exact zip_none e
theorem it_enum (hK : ∀ a c, (mk a c).K = X.K) {a c : Addr} {O O' O1 : Addr → Prop} {H : Hp} {l : List W} {p : Addr} {vs : List V} (q : Rd H p (.lst vs)) (r : Reps (mk a c) O H l vs)
    (h1 : ∀ x, O' x → O x ∨ H x = none) (hR : ∀ b, (mk a c).R b → O' b) (n : ¬ O1 p) :
    ItOk (mk a c) O' O1 (l.zipIdx.map fun p => W.tup [.int (p.2 : Nat), p.1]) (Ite X.K p) H := by
  refine ⟨fun H2 => SqLO O1 H2 p vs ∧ Reps (mk a c) O' H2 l vs, ⟨⟨n, q⟩, reps_O h1 r⟩, fun H2 H3 ⟨x, y⟩ s1 s2 => ⟨s2.2 _ _ x, s1.reps y⟩, fun H2 ⟨x, y⟩ i => ⟨fun w e => ?_, fun e => ?_⟩⟩
  · rw [List.getElem?_map, List.getElem?_zipIdx] at e
    cases h : l[i]? with
    | none => rw [h] at e; cases e
    | some u =>
      rw [h] at e
      simp only [Option.map_some, Option.some.injEq, Nat.zero_add] at e
      subst e
      obtain ⟨z1, f1, g1⟩ := y.get' h
      refine ⟨⟨vs, z1, x.sqL, f1⟩, fun z H3 ⟨T, x', ez, nT, eH, k1⟩ => ?_⟩
      subst ez eH
      rw [k1 vs x.sqL] at f1
      cases f1
      exact ⟨same_laid nT, rep_pair hR nT rfl g1⟩
  · refine ⟨vs, x.sqL, ?_⟩
    rw [← y.length]
    rw [List.getElem?_eq_none_iff, List.length_map, List.length_zipIdx] at e
    exact e
theorem rev_at {α : Type} {l : List α} {i : Nat} {w : α} (e : l.reverse[i]? = some w) : i < l.length ∧ l[l.length - 1 - i]? = some w := by
  have h := (List.getElem?_eq_some_iff.mp e).1
  rw [List.length_reverse] at h
  rw [List.getElem?_reverse h] at e
  exact ⟨h, e⟩
theorem it_revL (hK : ∀ a c, (mk a c).K = X.K) {a c : Addr} {O O' O1 : Addr → Prop} {H : Hp} {l : List W} {p : Addr} {vs : List V} (q : Rd H p (.lst vs)) (r : Reps (mk a c) O H l vs)
    (h1 : ∀ x, O' x → O x ∨ H x = none) (n : ¬ O1 p) : ItOk (mk a c) O' O1 l.reverse (Itv X.K p vs.length) H := by
  refine ⟨fun H2 => SqLO O1 H2 p vs ∧ Reps (mk a c) O' H2 l vs, ⟨⟨n, q⟩, reps_O h1 r⟩, fun H2 H3 ⟨x, y⟩ s1 s2 => ⟨s2.2 _ _ x, s1.reps y⟩, fun H2 ⟨x, y⟩ i => ⟨fun w e => ?_, fun e => ?_⟩⟩
  · obtain ⟨hl, e⟩ := rev_at e
    obtain ⟨v, e1, r1⟩ := y.get' e
    rw [y.length] at hl e1
    refine ⟨⟨hl, vs, v, x.sqL, e1⟩, fun z H3 ⟨e2, e3⟩ => ?_⟩
    subst e2
    rw [e3 vs x.sqL] at e1
    cases e1
    exact ⟨Same.refl _, r1⟩
  · rw [List.getElem?_eq_none_iff, List.length_reverse, y.length] at e
    exact e
theorem it_revT (hK : ∀ a c, (mk a c).K = X.K) {a c : Addr} {O O' O1 : Addr → Prop} {H : Hp} {l : List W} {p : Addr} {vs : List V} (q : SqT X.K H p vs) (r : Reps (mk a c) O H l vs)
    (h1 : ∀ x, O' x → O x ∨ H x = none) : ItOk (mk a c) O' O1 l.reverse (RT.ItvT X.K p vs.length) H := by
  refine ⟨fun H2 => SqT X.K H2 p vs ∧ Reps (mk a c) O' H2 l vs, ⟨q, reps_O h1 r⟩, fun H2 H3 ⟨x, y⟩ s1 s2 => ⟨hK a c ▸ s1.1 _ _ ((hK a c).symm ▸ x), s1.reps y⟩, fun H2 ⟨x, y⟩ i => ⟨fun w e => ?_, fun e => ?_⟩⟩
  · obtain ⟨hl, e⟩ := rev_at e
    obtain ⟨v, e1, r1⟩ := y.get' e
    rw [y.length] at hl e1
    refine ⟨⟨hl, vs, v, x, e1⟩, fun z H3 ⟨e2, e3⟩ => ?_⟩
    subst e2
    rw [e3 vs x] at e1
    cases e1
    exact ⟨Same.refl _, r1⟩
  · rw [List.getElem?_eq_none_iff, List.length_reverse, y.length] at e
    exact e
end
end
end MP

/-! MP7: a list comprehension. -/
namespace MP
open PySem PySem.Spec PyProof.Rows L2
section
variable {S : Type} {Y : Sys S} {O : Addr → Prop} {σ : L2.St} {ρ : List Sl} {s s' : S} {H H' : Hp} {w : W} {v : V}
theorem rep_O {O' : Addr → Prop} {v : V} {w : W} (h : ∀ x, O' x → O x ∨ H x = none) (r : Rep Y O H w v) : Rep Y O' H w v := by
  refine r.step (fun _ _ x => x) fun a us x => ⟨fun z => ?_, x.2⟩
  rcases h a z with z | z
  · exact x.1 z
  · obtain ⟨_, e⟩ := x
    rcases e with e | ⟨_, e⟩ <;> rw [z] at e <;> cases e
/-- a new list that is ours: D -/
theorem ERel.own (E : ERel Y O σ ρ s H) {D : Addr} (nD : H D = none) : ERel Y (fun x => O x ∨ x = D) σ ρ s (upd H D (.lst [])) ∧ ∀ (j : Nat) l, ρ[j]? = some (.own l) → σ[j]? ≠ some (some (.ref D)) := by
  have X : Ext Y H (upd H D (.lst [])) := Ext.laid nD
  have hR : ∀ b, Y.R b → O b ∨ b = D := fun b h => .inl (E.rO b h)
  have hO : ∀ x, (O x ∨ x = D) → O x ∨ H x = none := fun x h => h.elim .inl fun z => .inr (z ▸ nD)
  refine ⟨{ len := E.len
            sl := fun i w e => let ⟨v, e1, r⟩ := E.sl i w e; ⟨v, e1, (rep_O hO r).ext X hR⟩
            ow := fun i l e => let ⟨a, vs, e1, o, n, e2, r⟩ := E.ow i l e; ⟨a, vs, e1, .inl o, n, X.lst n e2, (reps_O hO r).ext X hR⟩
            dis := E.dis
            rO := hR
            dom := fun b h => ?_
            st := rel_same E.st (same_laid nD) }, fun j l e z => ?_⟩
  · rcases h with h | h
    · obtain ⟨u, e⟩ := E.dom b h; exact X.some_of e
    · subst h; exact ⟨_, upd_same⟩
  · obtain ⟨a, vs, e1, _, _, e2, _⟩ := E.ow j l e
    rw [z] at e1
    cases e1
    rw [nD] at e2; cases e2
/-- a list of ours that no slot owns is written -/
theorem ERel.updO (E : ERel Y O σ ρ s H) {D : Addr} {xs ys : List V} (hO : O D) (hR : ¬ Y.R D) (hD : H D = some (.lst xs)) (hn : ∀ (j : Nat) l, ρ[j]? = some (.own l) → σ[j]? ≠ some (some (.ref D))) : ERel Y O σ ρ s (upd H D (.lst ys)) where
  len := E.len
  sl := fun i w e => let ⟨v, e1, r⟩ := E.sl i w e; ⟨v, e1, r.upd hO hD⟩
  ow := fun i l e => by
    obtain ⟨a, vs, e1, o, n, e2, r⟩ := E.ow i l e
    have ha : a ≠ D := fun z => hn i l e (z ▸ e1)
    exact ⟨a, vs, e1, o, n, by rw [upd_ne ha]; exact e2, r.upd hO hD⟩
  dis := E.dis
  rO := E.rO
  dom := fun b h => by
    by_cases z : b = D
    · subst z; exact ⟨_, upd_same⟩
    · rw [upd_ne z]; exact E.dom b h
  st := Y.frame s H _ E.st fun b hb => upd_ne fun z => hR (z ▸ hb)
theorem wipe_wipe (σ : L2.St) (vs : List Nat) : L2.wipe (L2.wipe σ vs) vs = L2.wipe σ vs :=
  wipe_eq (by rw [wipe_length]) fun j hj => by rw [wipe_get, if_neg hj]
theorem wipeS_own {vs : List Nat} : ∀ {j : Nat} {l : List W}, (wipeS ρ vs)[j]? = some (.own l) → ρ[j]? = some (.own l) ∧ j ∉ vs := by
  induction vs with
  | nil => intro j l h; exact ⟨h, by simp⟩
  | cons i vs ih =>
    intro j l h
    have h' : ((wipeS ρ vs).set i .no)[j]? = some (.own l) := h
    rcases set_get h' with ⟨_, e, _⟩ | ⟨n, e⟩
    · cases e
    · obtain ⟨h1, h2⟩ := ih e
      exact ⟨h1, by simp [h2, Ne.symm n]⟩
end

section
variable {S : Type} (mk : Addr → Addr → Sys S) (F : Str → List W → S → Option (W × S)) (G : Str → Option W)
def tIf (c : IO) : TT := fun σ H Q => ∃ (a b : Addr) (O : Addr → Prop) (ρ : List Sl) (s : S) (r : Bool) (s' : S), ERel (mk a b) O σ ρ s H ∧ evIf F G c ρ s = some (r, s') ∧
  ∀ H', Ext (mk a b) H H' → (mk a b).rel s' H' → Q r H'
theorem pts_mono' {X : Cx} {e : List Expr} {t t' : TT} (h : PTs X e t) (m : ∀ σ H Q, t' σ H Q → t σ H Q) : PTs X e t' := ⟨fun p s σ H Q I q => h.run p s σ H Q I (m σ H Q q)⟩
variable {mk F G}
/-- one item of a comprehension -/
def lcF (F : Str → List W → S → Option (W × S)) (G : Str → Option W) (tg : IT) (ifs : IO) (elt : IE) (ρ : List Sl) (w : W) (s : S) : Option (Option W × S) :=
  (asgT tg w ρ).bind fun ρ2 => (evIf F G ifs ρ2 s).bind fun c => if c.1 then (evE F G elt ρ2 c.2).map fun y => (some y.1, y.2) else some (none, c.2)
theorem lc_ok {X : Cx} (hK : ∀ a c, (mk a c).K = X.K) (hc : X.calm = true) (nd : X.N.Nodup) {tg : IT} {it : II} {ifs : IO} {elt : IE} {scope : Scope} {own : List (Str × Nat)} {p : Pos}
    (hi : PI X tg.ast it.ast (tI mk F G true it)) (ok : BlkOk X.N X.env.scope scope own) (hsub : ∀ i ∈ slotsT tg, i ∈ own.map (·.2))
    (hg : ∀ (s : Shared) (H : Hp) (C : Addr) (cl : List (Str × Addr)) (fp : List Addr), PG (X.blk s H scope (compEnvC scope cl C X.env) fp) tg.ast (tG mk tg))
    (ht : ∀ (s : Shared) (H : Hp) (C : Addr) (cl : List (Str × Addr)) (fp : List Addr), PTs (X.blk s H scope (compEnvC scope cl C X.env) fp) ifs.asts (tIf mk F G ifs))
    (he : ∀ (s : Shared) (H : Hp) (C : Addr) (cl : List (Str × Addr)) (fp : List Addr), PE (X.blk s H scope (compEnvC scope cl C X.env) fp) elt.ast (tE mk F G elt)) :
    ∀ σ H Q, tE mk F G (.lc elt tg it ifs scope own p) σ H Q → tLc (tI mk F G true it) (tG mk tg) (tIf mk F G ifs) (tE mk F G elt) (own.map (·.2)) σ H Q := by
  intro σ H Q ⟨a, c, O, ρ, s, w, s', E, ev, q⟩
  rw [evE, Option.bind_eq_some_iff] at ev
  obtain ⟨⟨ws, s1⟩, ei, ev⟩ := ev
  have hlen : ws.length ≤ sizeLine := by
    by_cases h : ws.length ≤ sizeLine
    · exact h
    · rw [if_neg h] at ev; cases ev
  rw [if_pos hlen, Option.map_eq_some_iff] at ev
  obtain ⟨⟨ys, s''⟩, eg, ez⟩ := ev
  simp only [Prod.mk.injEq] at ez
  obtain ⟨ez1, ez2⟩ := ez
  subst ez1 ez2
  have eg : lcGo (lcF F G tg ifs elt (wipeS ρ (own.map (·.2)))) ws s1 = some (ys, s'') := eg
  refine ⟨a, c, O, ρ, s, ws, s1, E, ei, fun J H1 e1 st1 hit D nD => ?_⟩
  have E1 := E.ext e1 st1
  obtain ⟨E2, hn⟩ := E1.own nD
  have hRD : ¬ (mk a c).R D := fun z => by obtain ⟨u, e⟩ := E1.dom D (E1.rO D z); rw [nD] at e; cases e
  have hRO : ∀ b, (mk a c).R b → O b ∨ b = D := fun b h => .inl (E.rO b h)
  have hR1 : ∀ b, (mk a c).R b → (mk a c).R b ∨ b = D := fun b h => .inl h
  obtain ⟨supp, h0, hst, hgo⟩ := hit (fun x => O x ∨ x = D) (fun x => (mk a c).R x ∨ x = D) (fun x h => h.elim .inl fun z => .inr (z ▸ nD)) hRO (fun x h => h.elim (fun z => .inl (E.rO x z)) .inr)
    (fun _ x h => h.elim .inl fun z => .inr (z ▸ nD))
  have X0 : Ext (mk a c) H1 (upd H1 D (.lst [])) := Ext.laid nD
  refine ⟨fun i m H2 => m = ws.length - i ∧ i ≤ ws.length ∧ ∃ (si : S) (acc : List W) (av : List V) (rest : List W), H2 D = some (.lst av) ∧ Reps (mk a c) (fun x => O x ∨ x = D) H2 acc av ∧
    ERel (mk a c) (fun x => O x ∨ x = D) σ ρ si H2 ∧ supp H2 ∧ lcGo (lcF F G tg ifs elt (wipeS ρ (own.map (·.2)))) (ws.drop i) si = some (rest, s'') ∧ acc ++ rest = ys ∧ acc.length ≤ i ∧ Ext (mk a c) H1 H2,
    ⟨ws.length, by omega, by omega, s1, [], [], ys, upd_same, rfl, E2, hst _ _ h0 (Stp.of_ext X0 hRO) (Stp.of_ext X0 hR1), by simpa using eg, rfl, by simp, X0⟩, fun i m H2 ⟨em, hi2, si, acc, av, rest, hD, ra, E3, hs, eg2, ey, hal, x2⟩ => ?_⟩
  obtain ⟨hsome, hnone⟩ := hgo H2 hs i
  cases hw : ws[i]? with
  | none =>
    have hie : ws.length ≤ i := List.getElem?_eq_none_iff.mp hw
    refine .inl ⟨hnone hw, ?_⟩
    rw [List.drop_of_length_le hie] at eg2
    rw [lcGo] at eg2
    simp only [Option.some.injEq, Prod.mk.injEq] at eg2
    obtain ⟨er, es⟩ := eg2
    subst er es
    rw [List.append_nil] at ey
    subst ey
    have fr : Fresh (mk a c) O H H2 (.lst acc) (.ref D) := fun l e => by
      cases e
      exact ⟨D, av, rfl, e1.none_of nD, hD, ra⟩
    exact q (.ref D) H2 (e1.trans x2) E3.st (fr.rep E.dom rfl) fun _ => fr
  | some w =>
    obtain ⟨hgo1, hyld⟩ := hsome w hw
    have hil : i < ws.length := (List.getElem?_eq_some_iff.mp hw).1
    have edrop : ws.drop i = w :: ws.drop (i + 1) := by
      rw [List.drop_eq_getElem_cons hil]
      rw [List.getElem?_eq_getElem hil] at hw
      cases hw; rfl
    rw [edrop, lcGo, Option.bind_eq_some_iff] at eg2
    obtain ⟨⟨r, s2⟩, ef, eg3⟩ := eg2
    rw [Option.bind_eq_some_iff] at eg3
    obtain ⟨⟨rest', s3⟩, eg4, ez⟩ := eg3
    unfold lcF at ef
    rw [Option.bind_eq_some_iff] at ef
    obtain ⟨ρ2, ea, ef⟩ := ef
    rw [Option.bind_eq_some_iff] at ef
    obtain ⟨⟨b, s4⟩, eb, ef⟩ := ef
    refine .inr ⟨hgo1, fun H3 => ∃ (si : S) (acc : List W) (av : List V) (rest : List W), H3 D = some (.lst av) ∧ Reps (mk a c) (fun x => O x ∨ x = D) H3 acc av ∧
      ERel (mk a c) (fun x => O x ∨ x = D) σ ρ si H3 ∧ supp H3 ∧ lcGo (lcF F G tg ifs elt (wipeS ρ (own.map (·.2)))) (ws.drop (i + 1)) si = some (rest, s'') ∧ acc ++ rest = ys ∧ acc.length ≤ i + 1 ∧ Ext (mk a c) H1 H3,
      fun H3 hN => ⟨ws.length - (i + 1), by omega, rfl, by omega, hN⟩, fun x H3 hy => ?_⟩
    obtain ⟨sm, rx⟩ := hyld x H3 hy
    have x3 : Ext (mk a c) H2 H3 := Ext.of_same sm
    have E4 := E3.ext x3 (rel_same E3.st sm)
    refine ⟨a, c, fun x => O x ∨ x = D, wipeS ρ (own.map (·.2)), si, w, ρ2, E4.wipe _, rx, ea, fun σ' E5 hl hd => ⟨?_, ?_⟩⟩
    · rw [wipe_eq (vs := own.map (·.2)) (σ := L2.wipe σ (own.map (·.2))) hl fun j hj => hd j fun z => hj (hsub j z), wipe_wipe]
    · refine ⟨a, c, fun x => O x ∨ x = D, ρ2, si, b, s4, E5, eb, fun H4 x4 st4 => ?_⟩
      have hD4 : H4 D = some (.lst av) := x4.lst hRD (x3.lst hRD hD)
      have sup4 : supp H4 := hst _ _ (hst _ _ hs (Stp.of_ext x3 hRO) (Stp.of_ext x3 hR1)) (Stp.of_ext x4 hRO) (Stp.of_ext x4 hR1)
      cases b with
      | false =>
        refine L2.iteF ?_
        simp only [Bool.false_eq_true, if_false, Option.some.injEq, Prod.mk.injEq] at ef
        obtain ⟨er, es⟩ := ef
        subst er es
        simp only [Option.some.injEq, Prod.mk.injEq] at ez
        obtain ⟨er, es⟩ := ez
        subst er es
        exact ⟨s4, acc, av, rest', hD4, (ra.ext x3 hRO).ext x4 hRO, E4.ext x4 st4, sup4, eg4, ey, by omega, x2.trans (x3.trans x4)⟩
      | true =>
        refine L2.iteT ?_
        simp only [if_true, Option.map_eq_some_iff] at ef
        obtain ⟨⟨y, s5⟩, ee, er⟩ := ef
        simp only [Prod.mk.injEq] at er
        obtain ⟨er, es⟩ := er
        subst er es
        simp only [Option.some.injEq, Prod.mk.injEq] at ez
        obtain ⟨er, es⟩ := ez
        subst er es
        refine ⟨a, c, fun x => O x ∨ x = D, ρ2, s4, y, s5, E5.ext x4 st4, ee, fun v H5 x5 st5 r5 _ => ?_⟩
        have hD5 : H5 D = some (.lst av) := x5.lst hRD hD4
        have sup5 : supp H5 := hst _ _ sup4 (Stp.of_ext x5 hRO) (Stp.of_ext x5 hR1)
        have ra5 := ((ra.ext x3 hRO).ext x4 hRO).ext x5 hRO
        refine ⟨av, hD5, ?_, s5, acc ++ [y], av ++ [v], rest', upd_same, ?_, ?_, ?_, eg4, by rw [List.append_assoc]; exact ey, by rw [List.length_append, List.length_singleton]; omega, ?_⟩
        · rw [← ra.length]; omega
        · exact Reps.upd (.inr rfl) hD5 (ra5.append (Reps.cons r5 Reps.nil))
        · exact ((E4.ext x4 st4).ext x5 st5).updO (.inr rfl) hRD hD5 hn
        · exact hst _ _ sup5 (Stp.upd (.inr rfl) hD5) (Stp.upd (.inr rfl) hD5)
        · intro b o e
          have hb : b ≠ D := fun z => by rw [z, nD] at e; cases e
          rw [upd_ne hb]
          exact (x2.trans (x3.trans (x4.trans x5))) b o e
mutual
theorem asgT_own2 : ∀ {t : IT} {w : W} {ρ ρ' : List Sl} {j : Nat} {l : List W}, asgT t w ρ = some ρ' → ρ'[j]? = some (.own l) → ρ[j]? = some (.own l) ∧ j ∉ slotsT t
  | .name i x p, w, ρ, ρ', j, l, h, e => by
    rw [asgT] at h
    cases h
    rcases set_get e with ⟨_, e', _⟩ | ⟨n, e'⟩
    · cases e'
    · exact ⟨e', by simp [slotsT, Ne.symm n]⟩
  | .tup ts k p, w, ρ, ρ', j, l, h, e => by
    cases w with
    | tup m => rw [asgT] at h; exact asgTs_own2 (ts := ts) h e
    | lst m => rw [asgT] at h; exact asgTs_own2 (ts := ts) h e
    | _ => rw [asgT] at h <;> first | cases h | (intros; exact W.noConfusion ‹_›)
theorem asgTs_own2 : ∀ {ts : ITs} {m : List W} {ρ ρ' : List Sl} {j : Nat} {l : List W}, asgT.asgTs ts m ρ = some ρ' → ρ'[j]? = some (.own l) → ρ[j]? = some (.own l) ∧ j ∉ slotsTs ts
  | .nil, [], ρ, ρ', j, l, h, e => by
    rw [asgT.asgTs] at h
    cases h
    exact ⟨e, by simp [slotsTs]⟩
  | .nil, _ :: _, ρ, ρ', j, l, h, e => by rw [asgT.asgTs] at h; cases h; all_goals (intros; contradiction)
  | .cons t ts, [], ρ, ρ', j, l, h, e => by rw [asgT.asgTs] at h; cases h; all_goals (intros; contradiction)
  | .cons t ts, w :: m, ρ, ρ', j, l, h, e => by
    rw [asgT.asgTs, Option.bind_eq_some_iff] at h
    obtain ⟨ρ1, h1, h2⟩ := h
    obtain ⟨g1, g2⟩ := asgTs_own2 (ts := ts) h2 e
    obtain ⟨g3, g4⟩ := asgT_own2 (t := t) h1 g1
    exact ⟨g3, by simp [slotsTs, g2, g4]⟩
end
/-- one item of the outer clause of two -/
def lcF2 (F : Str → List W → S → Option (W × S)) (G : Str → Option W) (tg : IT) (ifs : IO) (tg1 : IT) (it1 : II) (ifs1 : IO) (elt : IE) (vs1 : List Nat) (ρ : List Sl) (w : W) (s : S) : Option (List W × S) :=
  (asgT tg w ρ).bind fun ρ2 => (evIf F G ifs ρ2 s).bind fun c => if c.1 then (evI F G false it1 ρ2 c.2).bind fun x1 => lcGo (lcF F G tg1 ifs1 elt (wipeS ρ2 vs1)) x1.1 x1.2 else some ([], c.2)
theorem lc2_ok {X : Cx} (hK : ∀ a c, (mk a c).K = X.K) (hc : X.calm = true) {tg tg1 : IT} {it it1 : II} {ifs ifs1 : IO} {elt : IE} {scope : Scope} {own : List (Str × Nat)} {vs1 : List Nat} {p : Pos}
    (hsub : ∀ i ∈ slotsT tg, i ∈ own.map (·.2)) (hsub1 : ∀ i ∈ slotsT tg1, i ∈ vs1) :
    ∀ σ H Q, tE mk F G (.lc2 elt tg it ifs tg1 it1 ifs1 scope own vs1 p) σ H Q → tLc2 (tI mk F G true it) (tG mk tg) (tIf mk F G ifs) (tI mk F G false it1) (tG mk tg1) (tIf mk F G ifs1) (tE mk F G elt) (own.map (·.2)) vs1 σ H Q := by
  intro σ H Q ⟨a, c, O, ρ, s, w, s', E, ev, q⟩
  rw [evE, Option.bind_eq_some_iff] at ev
  obtain ⟨⟨ws, s1⟩, ei, ev⟩ := ev
  rw [Option.bind_eq_some_iff] at ev
  obtain ⟨⟨ys, s''⟩, eg, ev⟩ := ev
  dsimp only at ev
  have hlen : ys.length ≤ sizeLine := by
    by_cases h : ys.length ≤ sizeLine
    · exact h
    · rw [if_neg h] at ev; cases ev
  rw [if_pos hlen] at ev
  simp only [Option.some.injEq, Prod.mk.injEq] at ev
  obtain ⟨ez1, ez2⟩ := ev
  subst ez1 ez2
  have eg : lcGo2 (lcF2 F G tg ifs tg1 it1 ifs1 elt vs1 (wipeS ρ (own.map (·.2)))) ws s1 = some (ys, s'') := eg
  refine ⟨a, c, O, ρ, s, ws, s1, E, ei, fun J H1 e1 st1 hit D nD => ?_⟩
  have E1 := E.ext e1 st1
  obtain ⟨E2, hn⟩ := E1.own nD
  have hRD : ¬ (mk a c).R D := fun z => by obtain ⟨u, e⟩ := E1.dom D (E1.rO D z); rw [nD] at e; cases e
  have hRO : ∀ b, (mk a c).R b → O b ∨ b = D := fun b h => .inl (E.rO b h)
  have hR1 : ∀ b, (mk a c).R b → (mk a c).R b ∨ b = D := fun b h => .inl h
  obtain ⟨supp, h0, hst, hgo⟩ := hit (fun x => O x ∨ x = D) (fun x => (mk a c).R x ∨ x = D) (fun x h => h.elim .inl fun z => .inr (z ▸ nD)) hRO (fun x h => h.elim (fun z => .inl (E.rO x z)) .inr)
    (fun _ x h => h.elim .inl fun z => .inr (z ▸ nD))
  have X0 : Ext (mk a c) H1 (upd H1 D (.lst [])) := Ext.laid nD
  refine ⟨fun i m H2 => m = ws.length - i ∧ i ≤ ws.length ∧ ∃ (si : S) (acc : List W) (av : List V) (rest : List W), H2 D = some (.lst av) ∧ Reps (mk a c) (fun x => O x ∨ x = D) H2 acc av ∧
    ERel (mk a c) (fun x => O x ∨ x = D) σ ρ si H2 ∧ supp H2 ∧ lcGo2 (lcF2 F G tg ifs tg1 it1 ifs1 elt vs1 (wipeS ρ (own.map (·.2)))) (ws.drop i) si = some (rest, s'') ∧ acc ++ rest = ys ∧ Ext (mk a c) H1 H2,
    ⟨ws.length, by omega, by omega, s1, [], [], ys, upd_same, rfl, E2, hst _ _ h0 (Stp.of_ext X0 hRO) (Stp.of_ext X0 hR1), by simpa using eg, rfl, X0⟩, fun i m H2 ⟨em, hi2, si, acc, av, rest, hD, ra, E3, hs, eg2, ey, x2⟩ => ?_⟩
  obtain ⟨hsome, hnone⟩ := hgo H2 hs i
  cases hw : ws[i]? with
  | none =>
    have hie : ws.length ≤ i := List.getElem?_eq_none_iff.mp hw
    refine .inl ⟨hnone hw, ?_⟩
    rw [List.drop_of_length_le hie, lcGo2] at eg2
    simp only [Option.some.injEq, Prod.mk.injEq] at eg2
    obtain ⟨er, es⟩ := eg2
    subst er es
    rw [List.append_nil] at ey
    subst ey
    have fr : Fresh (mk a c) O H H2 (.lst acc) (.ref D) := fun l e => by
      cases e
      exact ⟨D, av, rfl, e1.none_of nD, hD, ra⟩
    exact q (.ref D) H2 (e1.trans x2) E3.st (fr.rep E.dom rfl) fun _ => fr
  | some w =>
    obtain ⟨hgo1, hyld⟩ := hsome w hw
    have hil : i < ws.length := (List.getElem?_eq_some_iff.mp hw).1
    have edrop : ws.drop i = w :: ws.drop (i + 1) := by
      rw [List.drop_eq_getElem_cons hil]
      rw [List.getElem?_eq_getElem hil] at hw
      cases hw; rfl
    rw [edrop, lcGo2, Option.bind_eq_some_iff] at eg2
    obtain ⟨⟨out, s2⟩, ef, eg3⟩ := eg2
    rw [Option.bind_eq_some_iff] at eg3
    obtain ⟨⟨rest', s3⟩, eg4, ez⟩ := eg3
    simp only [Option.some.injEq, Prod.mk.injEq] at ez
    obtain ⟨er, es⟩ := ez
    subst er es
    unfold lcF2 at ef
    rw [Option.bind_eq_some_iff] at ef
    obtain ⟨ρ2, ea, ef⟩ := ef
    rw [Option.bind_eq_some_iff] at ef
    obtain ⟨⟨b, s4⟩, eb, ef⟩ := ef
    refine .inr ⟨hgo1, fun H3 => ∃ (si : S) (acc : List W) (av : List V) (rest : List W), H3 D = some (.lst av) ∧ Reps (mk a c) (fun x => O x ∨ x = D) H3 acc av ∧
      ERel (mk a c) (fun x => O x ∨ x = D) σ ρ si H3 ∧ supp H3 ∧ lcGo2 (lcF2 F G tg ifs tg1 it1 ifs1 elt vs1 (wipeS ρ (own.map (·.2)))) (ws.drop (i + 1)) si = some (rest, s3) ∧ acc ++ rest = ys ∧ Ext (mk a c) H1 H3,
      fun H3 hN => ⟨ws.length - (i + 1), by omega, rfl, by omega, hN⟩, fun x H3 hy => ?_⟩
    obtain ⟨sm, rx⟩ := hyld x H3 hy
    have x3 : Ext (mk a c) H2 H3 := Ext.of_same sm
    have E4 := E3.ext x3 (rel_same E3.st sm)
    refine ⟨a, c, fun x => O x ∨ x = D, wipeS ρ (own.map (·.2)), si, w, ρ2, E4.wipe _, rx, ea, fun σ2 E5 hl hd => ⟨?_, ?_⟩⟩
    · rw [wipe_eq (vs := own.map (·.2)) (σ := L2.wipe σ (own.map (·.2))) hl fun j hj => hd j fun z => hj (hsub j z), wipe_wipe]
    · refine ⟨a, c, fun x => O x ∨ x = D, ρ2, si, b, s4, E5, eb, fun H4 x4 st4 => ?_⟩
      have hD4 : H4 D = some (.lst av) := x4.lst hRD (x3.lst hRD hD)
      have sup4 : supp H4 := hst _ _ (hst _ _ hs (Stp.of_ext x3 hRO) (Stp.of_ext x3 hR1)) (Stp.of_ext x4 hRO) (Stp.of_ext x4 hR1)
      have hn2 : ∀ (j : Nat) l, ρ2[j]? = some (.own l) → σ2[j]? ≠ some (some (.ref D)) := by
        intro j l e z
        obtain ⟨g1, g2⟩ := asgT_own2 ea e
        obtain ⟨g3, g4⟩ := wipeS_own g1
        rw [hd j g2, wipe_get, if_neg g4] at z
        exact hn j l g3 z
      cases b with
      | false =>
        refine L2.iteF ?_
        simp only [Bool.false_eq_true, if_false, Option.some.injEq, Prod.mk.injEq] at ef
        obtain ⟨er, es⟩ := ef
        subst er es
        exact ⟨s4, acc, av, rest', hD4, (ra.ext x3 hRO).ext x4 hRO, E4.ext x4 st4, sup4, eg4, ey, x2.trans (x3.trans x4)⟩
      | true =>
        refine L2.iteT ?_
        simp only [if_true, Option.bind_eq_some_iff] at ef
        obtain ⟨⟨ws1, s5⟩, ei1, eg1⟩ := ef
        dsimp only at eg1
        refine ⟨a, c, fun x => O x ∨ x = D, ρ2, s4, ws1, s5, E5.ext x4 st4, ei1, fun J1 H5 x5 st5 hit1 => ?_⟩
        obtain ⟨sup1, h01, hst1, hgo1⟩ := hit1 (fun x => O x ∨ x = D) (fun x => (mk a c).R x ∨ x = D) (fun x h => .inl h) hRO (fun x h => h.elim (fun z => .inl (E.rO x z)) .inr) (fun z => by cases z)
        have hD5 : H5 D = some (.lst av) := x5.lst hRD hD4
        have sup5 : supp H5 := hst _ _ sup4 (Stp.of_ext x5 hRO) (Stp.of_ext x5 hR1)
        have ra5 := ((ra.ext x3 hRO).ext x4 hRO).ext x5 hRO
        have x15 := x2.trans (x3.trans (x4.trans x5))
        refine ⟨fun j k H6 => k = ws1.length - j ∧ j ≤ ws1.length ∧ ∃ (sj : S) (acc1 : List W) (av1 : List V) (out1 : List W), H6 D = some (.lst av1) ∧ Reps (mk a c) (fun x => O x ∨ x = D) H6 acc1 av1 ∧
          ERel (mk a c) (fun x => O x ∨ x = D) σ ρ sj H6 ∧ ERel (mk a c) (fun x => O x ∨ x = D) σ2 ρ2 sj H6 ∧ supp H6 ∧ sup1 H6 ∧ lcGo (lcF F G tg1 ifs1 elt (wipeS ρ2 vs1)) (ws1.drop j) sj = some (out1, s2) ∧ acc1 ++ out1 ++ rest' = ys ∧ Ext (mk a c) H1 H6,
          ⟨ws1.length, by omega, by omega, s5, acc, av, out, hD5, ra5, (E4.ext x4 st4).ext x5 st5, (E5.ext x4 st4).ext x5 st5, sup5, h01, by simpa using eg1, by rw [List.append_assoc]; exact ey, x15⟩,
          fun j k H6 ⟨ek, hj2, sj, acc1, av1, out1, hD6, ra6, E6, E7, hs6, hs7, eg6, ey6, x16⟩ => ?_⟩
        obtain ⟨hsome1, hnone1⟩ := hgo1 H6 hs7 j
        cases hw1 : ws1[j]? with
        | none =>
          have hje : ws1.length ≤ j := List.getElem?_eq_none_iff.mp hw1
          refine .inl ⟨hnone1 hw1, ?_⟩
          rw [List.drop_of_length_le hje, lcGo] at eg6
          simp only [Option.some.injEq, Prod.mk.injEq] at eg6
          obtain ⟨er, es⟩ := eg6
          subst er es
          rw [List.append_nil] at ey6
          exact ⟨sj, acc1, av1, rest', hD6, ra6, E6, hs6, eg4, ey6, x16⟩
        | some w1 =>
          obtain ⟨hgo2, hyld1⟩ := hsome1 w1 hw1
          have hjl : j < ws1.length := (List.getElem?_eq_some_iff.mp hw1).1
          have edrop1 : ws1.drop j = w1 :: ws1.drop (j + 1) := by
            rw [List.drop_eq_getElem_cons hjl]
            rw [List.getElem?_eq_getElem hjl] at hw1
            cases hw1; rfl
          rw [edrop1, lcGo, Option.bind_eq_some_iff] at eg6
          obtain ⟨⟨r, s6⟩, ef1, eg7⟩ := eg6
          rw [Option.bind_eq_some_iff] at eg7
          obtain ⟨⟨out2, s7⟩, eg8, ez⟩ := eg7
          unfold lcF at ef1
          rw [Option.bind_eq_some_iff] at ef1
          obtain ⟨ρ3, ea1, ef1⟩ := ef1
          rw [Option.bind_eq_some_iff] at ef1
          obtain ⟨⟨b1, s8⟩, eb1, ef1⟩ := ef1
          refine .inr ⟨hgo2, fun H7 => ∃ (sj : S) (acc1 : List W) (av1 : List V) (out1 : List W), H7 D = some (.lst av1) ∧ Reps (mk a c) (fun x => O x ∨ x = D) H7 acc1 av1 ∧
            ERel (mk a c) (fun x => O x ∨ x = D) σ ρ sj H7 ∧ ERel (mk a c) (fun x => O x ∨ x = D) σ2 ρ2 sj H7 ∧ supp H7 ∧ sup1 H7 ∧ lcGo (lcF F G tg1 ifs1 elt (wipeS ρ2 vs1)) (ws1.drop (j + 1)) sj = some (out1, s2) ∧ acc1 ++ out1 ++ rest' = ys ∧ Ext (mk a c) H1 H7,
            fun H7 hN => ⟨ws1.length - (j + 1), by omega, rfl, by omega, hN⟩, fun x1 H7 hy1 => ?_⟩
          obtain ⟨sm1, rx1⟩ := hyld1 x1 H7 hy1
          have x7 : Ext (mk a c) H6 H7 := Ext.of_same sm1
          have E8 := E6.ext x7 (rel_same E6.st sm1)
          have E9 := E7.ext x7 (rel_same E7.st sm1)
          refine ⟨a, c, fun x => O x ∨ x = D, wipeS ρ2 vs1, sj, w1, ρ3, E9.wipe _, rx1, ea1, fun σ3 E10 hl1 hd1 => ⟨?_, ?_⟩⟩
          · rw [wipe_eq (vs := vs1) (σ := L2.wipe σ2 vs1) hl1 fun j hj => hd1 j fun z => hj (hsub1 j z), wipe_wipe]
          · refine ⟨a, c, fun x => O x ∨ x = D, ρ3, sj, b1, s8, E10, eb1, fun H8 x8 st8 => ?_⟩
            have hD8 : H8 D = some (.lst av1) := x8.lst hRD (x7.lst hRD hD6)
            have sp8 : supp H8 := hst _ _ (hst _ _ hs6 (Stp.of_ext x7 hRO) (Stp.of_ext x7 hR1)) (Stp.of_ext x8 hRO) (Stp.of_ext x8 hR1)
            have sq8 : sup1 H8 := hst1 _ _ (hst1 _ _ hs7 (Stp.of_ext x7 hRO) (Stp.of_ext x7 hR1)) (Stp.of_ext x8 hRO) (Stp.of_ext x8 hR1)
            cases b1 with
            | false =>
              refine L2.iteF ?_
              simp only [Bool.false_eq_true, if_false, Option.some.injEq, Prod.mk.injEq] at ef1
              obtain ⟨er, es⟩ := ef1
              subst er es
              simp only [Option.some.injEq, Prod.mk.injEq] at ez
              obtain ⟨er, es⟩ := ez
              subst er es
              exact ⟨s8, acc1, av1, out2, hD8, (ra6.ext x7 hRO).ext x8 hRO, E8.ext x8 st8, E9.ext x8 st8, sp8, sq8, eg8, ey6, x16.trans (x7.trans x8)⟩
            | true =>
              refine L2.iteT ?_
              simp only [if_true, Option.map_eq_some_iff] at ef1
              obtain ⟨⟨y, s9⟩, ee, er⟩ := ef1
              simp only [Prod.mk.injEq] at er
              obtain ⟨er, es⟩ := er
              subst er es
              simp only [Option.some.injEq, Prod.mk.injEq] at ez
              obtain ⟨er, es⟩ := ez
              subst er es
              refine ⟨a, c, fun x => O x ∨ x = D, ρ3, s8, y, s9, E10.ext x8 st8, ee, fun v H9 x9 st9 r9 _ => ?_⟩
              have hD9 : H9 D = some (.lst av1) := x9.lst hRD hD8
              have sp9 : supp H9 := hst _ _ sp8 (Stp.of_ext x9 hRO) (Stp.of_ext x9 hR1)
              have sq9 : sup1 H9 := hst1 _ _ sq8 (Stp.of_ext x9 hRO) (Stp.of_ext x9 hR1)
              have ra9 := ((ra6.ext x7 hRO).ext x8 hRO).ext x9 hRO
              have hal : acc1.length < ys.length := by
                rw [← ey6]
                simp only [List.length_append, List.length_cons]
                omega
              refine ⟨av1, hD9, by rw [← ra6.length]; omega, s9, acc1 ++ [y], av1 ++ [v], out2, upd_same, ?_, ?_, ?_, ?_, ?_, eg8, ?_, ?_⟩
              · exact Reps.upd (.inr rfl) hD9 (ra9.append (Reps.cons r9 Reps.nil))
              · exact ((E8.ext x8 st8).ext x9 st9).updO (.inr rfl) hRD hD9 hn
              · exact ((E9.ext x8 st8).ext x9 st9).updO (.inr rfl) hRD hD9 hn2
              · exact hst _ _ sp9 (Stp.upd (.inr rfl) hD9) (Stp.upd (.inr rfl) hD9)
              · exact hst1 _ _ sq9 (Stp.upd (.inr rfl) hD9) (Stp.upd (.inr rfl) hD9)
              · rw [List.append_assoc acc1]; exact ey6
              · intro b o e
                have hb : b ≠ D := fun z => by rw [z, nD] at e; cases e
                rw [upd_ne hb]
                exact (x16.trans (x7.trans (x8.trans x9))) b o e
end
end MP

/-! MP8: every expression of the small syntax is sound. -/
namespace MP
open PySem PySem.Spec PyProof.Rows L2

/-! ### what may stand -/
def neEs : IEs → Bool
  | .nil => false
  | _ => true
def lenEs : IEs → Nat
  | .nil => 0
  | .cons _ es => lenEs es + 1
def isTupT : IT → Bool
  | .tup _ _ _ => true
  | _ => false
def blkB (N : List Str) (sc scope : Scope) (own : List (Str × Nat)) : Bool :=
  (match scope.kind with | .function => true | _ => false) && (scope.names.all fun y => decide (scope.names.lookup y.1 = some y.2)) && (own.all fun p => decide (N[p.2]? = some p.1)) &&
    (scope.names.all fun y => match y.2 with
      | .free => capB sc y.1
      | .local => decide (y.1 ∈ own.map (·.1)) || decide (y.1 ∉ N)
      | .cell => decide (y.1 ∈ own.map (·.1)) || decide (y.1 ∉ N)
      | _ => true)
def ndbg (x : Str) : Bool := !(x == ("__debug__" : Str))
mutual
def wfE (T : Tab) (N : List Str) (sc : Scope) : IE → Bool
  | .var i x _ => decide (N[i]? = some x) && visB sc x && ndbg x && !(x == ("__classdict__" : Str))
  | .cst _ _ _ => true
  | .glob x _ => decide (x ∈ T.gl) && glbB sc x && ndbg x
  | .bin a _ b _ => wfE T N sc a && wfE T N sc b
  | .neg a _ => wfE T N sc a
  | .not a _ => wfE T N sc a
  | .boolop _ es _ => neEs es && wfEs T N sc es
  | .cmp a _ b _ => wfE T N sc a && wfE T N sc b
  | .chain a _ b _ c _ => wfE T N sc a && wfE T N sc b && wfE T N sc c
  | .ifx c a b _ => wfE T N sc c && wfE T N sc a && wfE T N sc b
  | .call f es _ _ => neEs es && decide (f ∈ T.fl) && glbB sc f && ndbg f && wfEs T N sc es
  | .bcall f es _ _ => neEs es && decide (f ∈ bnames) && glbB sc f && (if f = "gcd" then T.gcd else if f = "isqrt" then T.isq else decide (f ∈ T.bl)) && wfEs T N sc es
  | .isinst e K _ _ _ => glbB sc "isinstance" && glbB sc K && decide (("isinstance" : Str) ∈ T.bl) && decide (K ∈ T.bl) && decide (K ∈ (["bool", "int", "str", "list", "tuple"] : List Str)) && wfE T N sc e
  | .idx a b _ => wfE T N sc a && wfE T N sc b
  | .slice a lo hi _ _ => wfE T N sc a && wfO T N sc lo && wfO T N sc hi
  | .revsl a _ _ _ _ _ => wfE T N sc a
  | .tup es _ _ => wfEs T N sc es
  | .lst es _ => wfEs T N sc es
  | .lc elt tg it ifs scope own _ => blkB N sc scope own && wfI T N sc tg it && wfT N scope tg && (slotsT tg).all (fun i => decide (i ∈ own.map (·.2))) && wfO { T with tb := false } N scope ifs && wfE { T with tb := false } N scope elt
  | .gen any_ _ x it scope _ _ _ _ => T.tb && wfE T N sc it && glbB sc (if any_ then "any" else "all") && decide ((if any_ then "any" else "all" : Str) ∈ T.bl) && (match scope.kind with | .function => true | _ => false) && !scope.isCoroutine &&
      (scope.names.all fun y => match y.2 with | .cell => false | .free => false | _ => true) && decide (scope.names.lookup (".0" : Str) = some .local) && decide (scope.names.lookup x = some .local) && ndbg x && (match it with | .var _ _ _ => true | _ => false)
  | .lc2 elt tg it ifs tg1 it1 ifs1 scope own vs1 _ => blkB N sc scope own && wfI T N sc tg it && wfT N scope tg && (slotsT tg).all (fun i => decide (i ∈ own.map (·.2))) && wfO { T with tb := false } N scope ifs &&
      wfI { T with tb := false } N scope tg1 it1 && wfT N scope tg1 && (slotsT tg1).all (fun i => decide (i ∈ vs1)) && vs1.all (fun i => decide (i ∈ own.map (·.2))) && wfO { T with tb := false } N scope ifs1 && wfE { T with tb := false } N scope elt
def wfEs (T : Tab) (N : List Str) (sc : Scope) : IEs → Bool
  | .nil => true
  | .cons e es => wfE T N sc e && wfEs T N sc es
def wfO (T : Tab) (N : List Str) (sc : Scope) : IO → Bool
  | .none => true
  | .some e => wfE T N sc e
def wfI (T : Tab) (N : List Str) (sc : Scope) (tg : IT) : II → Bool
  | .seq e => wfE T N sc e
  | .range es _ _ => glbB sc "range" && decide (("range" : Str) ∈ T.bl) && neEs es && decide (lenEs es ≤ 3) && wfEs T N sc es
  | .zip a b _ _ => isTupT tg && glbB sc "zip" && decide (("zip" : Str) ∈ T.bl) && wfE T N sc a && wfE T N sc b
  | .enum e _ _ => isTupT tg && glbB sc "enumerate" && decide (("enumerate" : Str) ∈ T.bl) && wfE T N sc e
  | .rev e _ _ => glbB sc "reversed" && decide (("reversed" : Str) ∈ T.bl) && wfE T N sc e
end

/-! ### a block's scope -/
theorem lookup_map {g : Str → NameKind → NameKind} : ∀ {names : List (Str × NameKind)} {x : Str}, (names.map fun (n, k) => (n, g n k)).lookup x = (names.lookup x).map (g x)
  | [], _ => rfl
  | (n, k) :: r, x => by
    rw [List.map_cons, List.lookup_cons, List.lookup_cons, lookup_map]
    by_cases h : x == n
    · rw [h]
      rw [eq_of_beq h]
      rfl
    · have : (x == n) = false := by simpa using h
      rw [this]
theorem relabel_lookup (scope : Scope) (env : Env) (x : Str) : (relabel scope env).names.lookup x = (scope.names.lookup x).map fun k => if (k == NameKind.free && env.scope.kind == .function && env.kindOf x == some .cell) then .cell else k := by
  have e : (relabel scope env).names = scope.names.map fun (n, k) => (n, if (k == NameKind.free && env.scope.kind == .function && env.kindOf n == some .cell) then .cell else k) := by
    unfold relabel
    apply List.map_congr_left
    intro ⟨n, k⟩ _
    dsimp only
    split <;> rfl
  rw [e]
  exact lookup_map (g := fun n k => if (k == NameKind.free && env.scope.kind == .function && env.kindOf n == some .cell) then .cell else k)
theorem relabel_keep {scope : Scope} {env : Env} {x : Str} {k : NameKind} (h : scope.names.lookup x = some k) (hk : k ≠ .free) : (relabel scope env).names.lookup x = some k := by
  rw [relabel_lookup, h]
  have : (k == NameKind.free) = false := by cases k <;> first | rfl | exact absurd rfl hk
  simp only [Option.map_some, this, Bool.false_and, Bool.false_eq_true, if_false]
theorem relabel_free {scope : Scope} {env : Env} {x : Str} (h : scope.names.lookup x = some .free) : (relabel scope env).names.lookup x = some .cell ∨ (relabel scope env).names.lookup x = some .free := by
  rw [relabel_lookup, h]
  by_cases z : (NameKind.free == NameKind.free && env.scope.kind == .function && env.kindOf x == some .cell) = true
  · left; simp only [Option.map_some, z, if_true]
  · right; simp only [Option.map_some]; rw [if_neg z]
theorem scOk_blk (X : Cx) (s : Shared) (H : Hp) (scope : Scope) (C : Addr) (cl : List (Str × Addr)) (fp : List Addr) : ScOk (X.blk s H scope (compEnvC scope cl C X.env) fp) scope where
  vis := fun x h => by
    unfold visB at h
    show (relabel scope X.env).names.lookup x = some .local ∨ (relabel scope X.env).names.lookup x = some .cell ∨ (relabel scope X.env).names.lookup x = some .free
    split at h <;> rename_i e
    · exact .inl (relabel_keep e (by decide))
    · exact .inr (.inl (relabel_keep e (by decide)))
    · exact .inr (relabel_free e)
    · cases h
  loc := fun x h => by
    unfold locB at h
    show ((relabel scope X.env).names.lookup x = some .local ∨ (relabel scope X.env).names.lookup x = some .cell) ∧ ((scope.names.lookup x == some .cell) = true ∨ (relabel scope X.env).names.lookup x = some .local)
    split at h <;> rename_i e
    · exact ⟨.inl (relabel_keep e (by decide)), .inr (relabel_keep e (by decide))⟩
    · exact ⟨.inr (relabel_keep e (by decide)), .inl (by rw [e]; rfl)⟩
    · cases h
  cap := fun x h => by
    unfold capB at h
    show (relabel scope X.env).names.lookup x = some .cell ∨ (relabel scope X.env).names.lookup x = some .free
    split at h <;> rename_i e
    · exact .inl (relabel_keep e (by decide))
    · exact relabel_free e
    · cases h
  lcl := fun x h => by
    unfold lclB at h
    show (relabel scope X.env).names.lookup x = some .local
    split at h <;> rename_i e
    · exact relabel_keep e (by decide)
    · cases h
  glb := fun x h => by
    unfold glbB at h
    show (relabel scope X.env).names.lookup x = some .globalImplicit
    split at h <;> rename_i e
    · exact relabel_keep e (by decide)
    · cases h
theorem blk_ok {X : Cx} {sc : Scope} (so : ScOk X sc) {scope : Scope} {own : List (Str × Nat)} (h : blkB X.N sc scope own = true) : BlkOk X.N X.env.scope scope own := by
  unfold blkB at h
  simp only [Bool.and_eq_true, List.all_eq_true] at h
  obtain ⟨⟨⟨h1, h2⟩, h3⟩, h4⟩ := h
  refine ⟨?_, fun y hy => of_decide_eq_true (h2 y hy), fun p hp => of_decide_eq_true (h3 p hp), fun y hy e => ?_, fun y hy e => ?_⟩
  · revert h1; cases scope.kind <;> intro h1 <;> first | rfl | cases h1
  · have := h4 y hy
    rw [e] at this
    exact so.cap y.1 this
  · have := h4 y hy
    rcases e with e | e <;> rw [e] at this <;> simp only [Bool.or_eq_true, decide_eq_true_eq] at this <;> exact this

theorem nomarkE (op : CmpOp) (e : IE) : behindInMarks op e.ast = false := by cases e <;> rfl
theorem nomark2 (o1 o2 : CmpOp) (a b : IE) : lastMarks [o1, o2] [a.ast, b.ast] = false := nomarkE o2 b

section
variable {S : Type} (mk : Addr → Addr → Sys S) (F : Str → List W → S → Option (W × S)) (G : Str → Option W)
structure SndE (X : Cx) (e : IE) : Prop where
  pe : PE X e.ast (tE mk F G e)
  pb : PE X e.ast (tB mk F G e)
  pt : PT X e.ast (tT mk F G e)
/-- a chain of and, or: as a value, as a test -/
def tBoV (op : BoolOp) (es : IEs) : TE := fun σ H Q => ∃ (a c : Addr) (O : Addr → Prop) (ρ : List Sl) (s : S) (w : W) (s' : S), ERel (mk a c) O σ ρ s H ∧ evBool F G op es ρ s = some (w, s') ∧
  ∀ v H', Ext (mk a c) H H' → (mk a c).rel s' H' → Rep (mk a c) O H' w v → Q v H'
def tBoT (op : BoolOp) (es : IEs) : TT := fun σ H Q => ∃ (a c : Addr) (O : Addr → Prop) (ρ : List Sl) (s : S) (w : W) (s' : S) (r : Bool), ERel (mk a c) O σ ρ s H ∧ evBool F G op es ρ s = some (w, s') ∧ truW w = some r ∧
  ∀ H', Ext (mk a c) H H' → (mk a c).rel s' H' → Q r H'
def tO (e : IO) : TO := fun σ H Q => ∃ (a c : Addr) (O : Addr → Prop) (ρ : List Sl) (s : S) (r : Option Int) (s' : S), ERel (mk a c) O σ ρ s H ∧ evO F G e ρ s = some (r, s') ∧
  ∀ H', Ext (mk a c) H H' → (mk a c).rel s' H' → Q r H'
theorem po_mono' {X : Cx} {e : Option Expr} {t t' : TO} (h : PO X e t) (m : ∀ σ H Q, t' σ H Q → t σ H Q) : PO X e t' := ⟨fun p s σ H Q I q => h.run p s σ H Q I (m σ H Q q)⟩
theorem pw_mono' {X : Cx} {e : Expr} {t t' : TT} (h : PW X e t) (m : ∀ σ H Q, t' σ H Q → t σ H Q) : PW X e t' := ⟨fun wh p s σ H Q I q => h.run wh p s σ H Q I (m σ H Q q)⟩
variable {mk F G}
theorem pb_of {X : Cx} {e : IE} (hl : ∀ ρ, lent e ρ = none) (h : PE X e.ast (tE mk F G e)) : PE X e.ast (tB mk F G e) :=
  pe_mono' h fun σ H Q ⟨a, c, O, ρ, s, w, s', E, ev, q⟩ => ⟨a, c, O, ρ, s, w, s', E, by rw [hl] at ev; exact ev, fun v H' x y r _ => q v H' x y (.inl r)⟩
theorem pt_of {X : Cx} {e : IE} (hK : ∀ a c, (mk a c).K = X.K) (he : ∀ whole, isTrue e.ast X.env whole = (do let v ← whole; standAt e.ast.pos; holding [v] (truthy v))) (h : PE X e.ast (tE mk F G e)) : PT X e.ast (tT mk F G e) :=
  pt_mono' (pt_truth h he) fun σ H Q ⟨a, c, O, ρ, s, w, s', r, E, ev, tr, q⟩ => ⟨a, c, O, ρ, s, w, s', E, ev, fun v H' x y rr _ => ⟨r, tru_of hK (.inl rr) tr, q H' x y⟩⟩
/-- the three readings of a plain form -/
theorem snd_of {X : Cx} {e : IE} (hK : ∀ a c, (mk a c).K = X.K) (hl : ∀ ρ, lent e ρ = none) (he : ∀ whole, isTrue e.ast X.env whole = (do let v ← whole; standAt e.ast.pos; holding [v] (truthy v))) (h : PE X e.ast (tE mk F G e)) : SndE mk F G X e :=
  ⟨h, pb_of hl h, pt_of hK he h⟩
theorem noFresh {Y : Sys S} {O : Addr → Prop} {H H' : Hp} {w : W} {v : V} {e : IE} (h : fresh e = false) : fresh e = true → Fresh Y O H H' w v := fun z => by rw [h] at z; cases z
theorem CxOk.blk {T : Tab} {X : Cx} (C : CxOk mk F G T X) (s : Shared) (H : Hp) (scope : Scope) (cenv : Env) (fp : List Addr) : CxOk mk F G { T with tb := false } (X.blk s H scope cenv fp) where
  hK := C.hK
  calm := C.calm
  nd := C.nd
  rm := C.rm
  fns := fun f hf => ⟨(C.fns f hf).ex⟩
  glb := C.glb
  blt := C.blt
  gcd := C.gcd
  isq := C.isq
  tab := fun z => by cases z
def tyW : W → String
  | .non => "NoneType" | .bl _ => "bool" | .int _ => "int" | .str _ => "str" | .tup _ => "tuple" | .lst _ => "list" | .st => ""
theorem tyX_of {K : PySem.W.Frag} {Y : Sys S} (hK : Y.K = K) {O : Addr → Prop} {H : Hp} {w : W} {v : V} (r : Rep Y O H w v) (h : w ≠ .st) : TyX K H v (.type (tyW w)) := by
  cases w with
  | non => cases (show v = .non from r); exact .base .non
  | bl b => cases (show v = .bl b from r); exact .base (.bl b)
  | int b => cases (show v = .int b from r); exact .base (.int b)
  | str b => cases (show v = .str b from r); exact .base (.str b)
  | tup l =>
    obtain ⟨a, vs, rfl, q, _⟩ := r
    rcases q with (e | ⟨ob, e⟩) | ⟨o, its, n, e, c, _⟩
    · exact .base (.tup e)
    · exact .fTuple e
    · exact .kTuple (hK ▸ e) c
  | lst l =>
    obtain ⟨a, vs, rfl, q, _⟩ := r
    rcases q.2 with e | ⟨ob, e⟩
    · exact .base (.lst e)
    · exact .base (.frz e)
  | st => exact absurd rfl h
theorem isi_bool {w : W} {r : Bool} (h : isiT "bool" w = some r) : w ≠ .st ∧ kitB (tyW w) "bool" = some r := by
  rw [isiT_bool] at h
  cases w <;> first | (cases h; refine ⟨fun z => (by cases z), ?_⟩; dsimp only [tyW]; decide +kernel) | cases h
theorem isi_int {w : W} {r : Bool} (h : isiT "int" w = some r) : w ≠ .st ∧ kitB (tyW w) "int" = some r := by
  rw [isiT_int] at h
  cases w <;> first | (cases h; refine ⟨fun z => (by cases z), ?_⟩; dsimp only [tyW]; decide +kernel) | cases h
theorem isi_str {w : W} {r : Bool} (h : isiT "str" w = some r) : w ≠ .st ∧ kitB (tyW w) "str" = some r := by
  rw [isiT_str] at h
  cases w <;> first | (cases h; refine ⟨fun z => (by cases z), ?_⟩; dsimp only [tyW]; decide +kernel) | cases h
theorem isi_list {w : W} {r : Bool} (h : isiT "list" w = some r) : w ≠ .st ∧ kitB (tyW w) "list" = some r := by
  rw [isiT_list] at h
  cases w <;> first | (cases h; refine ⟨fun z => (by cases z), ?_⟩; dsimp only [tyW]; decide +kernel) | cases h
theorem isi_tuple {w : W} {r : Bool} (h : isiT "tuple" w = some r) : w ≠ .st ∧ kitB (tyW w) "tuple" = some r := by
  rw [isiT_tuple] at h
  cases w <;> first | (cases h; refine ⟨fun z => (by cases z), ?_⟩; dsimp only [tyW]; decide +kernel) | cases h
theorem boot_listT : bootBuiltins "list" = some (.type "list") := by decide +kernel
theorem boot_tupleT : bootBuiltins "tuple" = some (.type "tuple") := by decide +kernel
theorem boot_str : bootBuiltins "str" = some (.type "str") := by decide +kernel
/-- isinstance(e, T) -/
theorem pe_isi {X : Cx} {e : IE} {pf pT p : Pos} {T : Str} {t : String} (hK : ∀ a c, (mk a c).K = X.K) (he : PE X e.ast (tE mk F G e)) (hg : Gl X "isinstance") (hm : X.mg "isinstance" = none) (hgT : Gl X T) (hmT : X.mg T = none)
    (hv : bootBuiltins T = some (.type t)) (hn : T ≠ "__name__") (hd : (T == ("__debug__" : Str)) = false) (hk : ∀ {w : W} {r : Bool}, isiT T w = some r → w ≠ .st ∧ kitB (tyW w) t = some r) :
    PE X (IE.isinst e T pf pT p).ast (tE mk F G (.isinst e T pf pT p)) := by
  refine pe_mono' (pe_callB call_isi hg hm PyProof.Rows.boot_isinstance (pa_cons he (pa_cons (pe_bltn hgT hmT hv (show RelV (.ty t) (.type t) from rfl) hn hd) pa_nil) (starEach_ie _ _ _)) (by decide) (by decide) (starEach_ie _ _ _) rfl) ?_
  intro σ H Q ⟨a, c, O, ρ, s, w, s', E, ev, q⟩
  rw [evE, Option.bind_eq_some_iff] at ev
  obtain ⟨⟨x, s1⟩, e1, ev⟩ := ev
  rw [Option.map_eq_some_iff] at ev
  obtain ⟨r, er, ez⟩ := ev
  simp only [Prod.mk.injEq] at ez
  obtain ⟨ez, es⟩ := ez
  subst ez es
  obtain ⟨h1, h2⟩ := hk er
  exact ⟨a, c, O, ρ, s, x, s1, E, e1, fun v H1 x1 st1 r1 _ => ⟨v, .ty t, _, _, r, rfl, .ty t, tyX_of (hK a c) r1 h1, kit_ty h2, q _ H1 x1 st1 rfl (noFresh rfl)⟩⟩

mutual
theorem sndE {T : Tab} : ∀ (e : IE) (X : Cx) (sc : Scope), CxOk mk F G T X → ScOk X sc → wfE T X.N sc e = true → SndE mk F G X e
  | .var i x p, X, sc, C, so, wf => by
    unfold wfE at wf
    simp only [Bool.and_eq_true] at wf
    obtain ⟨⟨⟨h1, h2⟩, h3⟩, h4⟩ := wf
    have h1 := of_decide_eq_true h1
    have hp := pe_var (pos := p) h1 (so.vis x h2) (by simpa [ndbg] using h3) (by simpa using h4)
    have pe : PE X (IE.var i x p).ast (tE mk F G (.var i x p)) := by
      refine pe_mono' hp ?_
      intro σ H Q ⟨a, c, O, ρ, s, w, s', E, ev, q⟩
      rw [evE] at ev
      split at ev
      · rename_i w' er
        cases ev
        obtain ⟨v, e1, r⟩ := E.sl i _ er
        exact ⟨v, e1, q v H Ext.refl E.st r (noFresh rfl)⟩
      · cases ev
    refine ⟨pe, ?_, pt_of C.hK (fun _ => rfl) pe⟩
    refine pe_mono' hp ?_
    intro σ H Q ⟨a, c, O, ρ, s, w, s', E, ev, q⟩
    cases hl : lent (.var i x p) ρ with
    | none =>
      rw [hl, orB, evE] at ev
      split at ev
      · rename_i w' er
        cases ev
        obtain ⟨v, e1, r⟩ := E.sl i _ er
        exact ⟨v, e1, q v H Ext.refl E.st (.inl r)⟩
      · cases ev
    | some l =>
      rw [hl, orB] at ev
      cases ev
      rw [lent] at hl
      split at hl
      · rename_i l' er
        cases hl
        obtain ⟨b, vs, e1, o, n, e2, r⟩ := E.ow i _ er
        exact ⟨.ref b, e1, q _ H Ext.refl E.st (.inr ⟨l, b, vs, rfl, rfl, o, n, e2, r⟩)⟩
      · cases hl
  | .cst k j p, X, sc, C, so, wf => by
    refine snd_of C.hK (fun _ => rfl) (fun _ => rfl) ?_
    cases k with
    | none => exact pe_mono' pe_non fun σ H Q ⟨a, c, O, ρ, s, w, s', E, ev, q⟩ => by rw [evE] at ev; cases ev; exact q _ H Ext.refl E.st rfl (noFresh rfl)
    | bool b => exact pe_mono' pe_bl fun σ H Q ⟨a, c, O, ρ, s, w, s', E, ev, q⟩ => by rw [evE] at ev; cases ev; exact q _ H Ext.refl E.st rfl (noFresh rfl)
    | int b => exact pe_mono' pe_int fun σ H Q ⟨a, c, O, ρ, s, w, s', E, ev, q⟩ => by rw [evE] at ev; cases ev; exact q _ H Ext.refl E.st rfl (noFresh rfl)
    | str b => exact pe_mono' pe_str fun σ H Q ⟨a, c, O, ρ, s, w, s', E, ev, q⟩ => by rw [evE] at ev; cases ev; exact q _ H Ext.refl E.st rfl (noFresh rfl)
    | _ => exact pe_absurd fun σ H Q ⟨a, c, O, ρ, s, w, s', E, ev, q⟩ => by rw [evE] at ev; cases ev
  | .glob x p, X, sc, C, so, wf => by
    unfold wfE at wf
    simp only [Bool.and_eq_true] at wf
    obtain ⟨⟨h1, h2⟩, h3⟩ := wf
    obtain ⟨u, v, w0, eg, em, rv, rr⟩ := C.glb x (of_decide_eq_true h1)
    refine snd_of C.hK (fun _ => rfl) (fun _ => rfl) ?_
    refine pe_mono' (pe_glob (so.glb x h2) em rv (by simpa [ndbg] using h3)) ?_
    intro σ H Q ⟨a, c, O, ρ, s, w, s', E, ev, q⟩
    rw [evE, eg] at ev
    cases ev
    exact q v H Ext.refl E.st (rr a c O H) (noFresh rfl)
  | .bin x op y p, X, sc, C, so, wf => by
    unfold wfE at wf
    rw [Bool.and_eq_true] at wf
    have h1 := sndE x X sc C so wf.1
    have h2 := sndE y X sc C so wf.2
    refine snd_of C.hK (fun _ => rfl) (fun _ => rfl) ?_
    refine pe_mono' (pe_op (op_bin C.hK) h1.pe h2.pe) ?_
    intro σ H Q ⟨a, c, O, ρ, s, w, s', E, ev, q⟩
    rw [evE, Option.bind_eq_some_iff] at ev
    obtain ⟨⟨wx, s1⟩, e1, ev⟩ := ev
    rw [Option.bind_eq_some_iff] at ev
    obtain ⟨⟨wy, s2⟩, e2, ev⟩ := ev
    rw [Option.map_eq_some_iff] at ev
    obtain ⟨w', e3, ez⟩ := ev
    simp only [Prod.mk.injEq] at ez
    obtain ⟨ez, es⟩ := ez
    subst ez es
    refine ⟨a, c, O, ρ, s, wx, s1, E, e1, fun v H1 x1 st1 r1 _ => ⟨a, c, O, ρ, s1, wy, s2, E.ext x1 st1, e2, fun u H2 x2 st2 r2 _ => ?_⟩⟩
    have E2 := (E.ext x1 st1).ext x2 st2
    refine ⟨a, c, O, wx, wy, w', r1.ext x2 E.rO, r2, e3, E.rO, E2.dom, fun z H3 sm r3 fr => ?_⟩
    exact q z H3 (x1.trans (x2.trans (Ext.of_same sm))) (rel_same st2 sm) r3 fun hf => (fr (by simpa [fresh] using hf)).pre (x1.trans x2)
  | .neg x p, X, sc, C, so, wf => by
    unfold wfE at wf
    have h1 := sndE x X sc C so wf
    refine snd_of C.hK (fun _ => rfl) (fun _ => rfl) ?_
    refine pe_mono' (pe_un un_neg h1.pe) ?_
    intro σ H Q ⟨a, c, O, ρ, s, w, s', E, ev, q⟩
    rw [evE, Option.bind_eq_some_iff] at ev
    obtain ⟨⟨wx, s1⟩, e1, ev⟩ := ev
    dsimp only at ev
    split at ev
    · cases ev
      exact ⟨a, c, O, ρ, s, _, _, E, e1, fun v H1 x1 st1 r1 _ => ⟨_, r1, q _ H1 x1 st1 rfl (noFresh rfl)⟩⟩
    · cases ev
  | .not x p, X, sc, C, so, wf => by
    unfold wfE at wf
    have h1 := sndE x X sc C so wf
    have pe : PE X (IE.not x p).ast (tE mk F G (.not x p)) := by
      refine pe_mono' (pe_notT h1.pe) ?_
      intro σ H Q ⟨a, c, O, ρ, s, w, s', E, ev, q⟩
      rw [evE, Option.bind_eq_some_iff] at ev
      obtain ⟨⟨wx, s1⟩, e1, ev⟩ := ev
      rw [Option.map_eq_some_iff] at ev
      obtain ⟨r, e3, ez⟩ := ev
      simp only [Prod.mk.injEq] at ez
      obtain ⟨ez, es⟩ := ez
      subst ez es
      exact ⟨a, c, O, ρ, s, wx, s1, E, e1, fun v H1 x1 st1 r1 _ => ⟨r, tru_of C.hK (.inl r1) e3, q _ H1 x1 st1 rfl (noFresh rfl)⟩⟩
    refine ⟨pe, pb_of (fun _ => rfl) pe, ?_⟩
    refine pt_mono' (pt_not h1.pt) ?_
    intro σ H Q ⟨a, c, O, ρ, s, w, s', r, E, ev, tr, q⟩
    rw [evE, Option.bind_eq_some_iff] at ev
    obtain ⟨⟨wx, s1⟩, e1, ev⟩ := ev
    rw [Option.map_eq_some_iff] at ev
    obtain ⟨r', e3, ez⟩ := ev
    simp only [Prod.mk.injEq] at ez
    obtain ⟨ez, es⟩ := ez
    subst ez es
    cases tr
    exact ⟨a, c, O, ρ, s, wx, s1, r', E, e1, e3, fun H1 x1 st1 => q H1 x1 st1⟩
  | .boolop op es p, X, sc, C, so, wf => by
    unfold wfE at wf
    rw [Bool.and_eq_true] at wf
    obtain ⟨h1, h2⟩ := sndBool es X sc op p C so wf.1 wf.2
    have pe : PE X (IE.boolop op es p).ast (tE mk F G (.boolop op es p)) :=
      pe_mono' h1 fun σ H Q ⟨a, c, O, ρ, s, w, s', E, ev, q⟩ => ⟨a, c, O, ρ, s, w, s', E, by rw [evE] at ev; exact ev, fun v H1 x1 st1 r1 => q v H1 x1 st1 r1 (noFresh rfl)⟩
    refine ⟨pe, pb_of (fun _ => rfl) pe, ?_⟩
    exact pt_mono' h2.pt fun σ H Q ⟨a, c, O, ρ, s, w, s', r, E, ev, tr, q⟩ => ⟨a, c, O, ρ, s, w, s', r, E, by rw [evE] at ev; exact ev, tr, q⟩
  | .cmp x op y p, X, sc, C, so, wf => by
    unfold wfE at wf
    rw [Bool.and_eq_true] at wf
    have h1 := sndE x X sc C so wf.1
    have h2 := sndE y X sc C so wf.2
    have key : ∀ σ H Q, tE mk F G (.cmp x op y p) σ H Q → tOp (rCmp mk op) (tB mk F G x) (tB mk F G y) σ H Q := by
      intro σ H Q ⟨a, c, O, ρ, s, w, s', E, ev, q⟩
      rw [evE, Option.bind_eq_some_iff] at ev
      obtain ⟨⟨wx, s1⟩, e1, ev⟩ := ev
      rw [Option.bind_eq_some_iff] at ev
      obtain ⟨⟨wy, s2⟩, e2, ev⟩ := ev
      rw [Option.map_eq_some_iff] at ev
      obtain ⟨r, e3, ez⟩ := ev
      simp only [Prod.mk.injEq] at ez
      obtain ⟨ez, es⟩ := ez
      subst ez es
      refine ⟨a, c, O, ρ, s, wx, s1, E, e1, fun v H1 x1 st1 r1 => ⟨a, c, O, ρ, s1, wy, s2, E.ext x1 st1, e2, fun u H2 x2 st2 r2 => ?_⟩⟩
      exact ⟨a, c, O, wx, wy, r, r1.ext x2 E.rO, r2, e3, E.rO, q _ H2 (x1.trans x2) st2 rfl (noFresh rfl)⟩
    have pe : PE X (IE.cmp x op y p).ast (tE mk F G (.cmp x op y p)) := pe_mono' (pe_cmpR (op_cmpW C.hK C.rm) h1.pb h2.pb (nomarkE op y)) key
    refine ⟨pe, pb_of (fun _ => rfl) pe, ?_⟩
    refine pt_mono' (pt_cmpR (op_cmpW C.hK C.rm) h1.pb h2.pb (nomarkE op y)) ?_
    intro σ H Q ⟨a, c, O, ρ, s, w, s', r, E, ev, tr, q⟩
    refine key σ H _ ⟨a, c, O, ρ, s, w, s', E, ev, fun v H1 x1 st1 r1 _ => ?_⟩
    rw [evE, Option.bind_eq_some_iff] at ev
    obtain ⟨⟨wx, s1⟩, e1, ev⟩ := ev
    rw [Option.bind_eq_some_iff] at ev
    obtain ⟨⟨wy, s2⟩, e2, ev⟩ := ev
    rw [Option.map_eq_some_iff] at ev
    obtain ⟨r', e3, ez⟩ := ev
    simp only [Prod.mk.injEq] at ez
    obtain ⟨ez, es⟩ := ez
    subst ez es
    cases tr
    exact ⟨_, r1, q H1 x1 st1⟩
  | .chain x o1 y o2 z p, X, sc, C, so, wf => by
    unfold wfE at wf
    simp only [Bool.and_eq_true] at wf
    have h1 := sndE x X sc C so wf.1.1
    have h2 := sndE y X sc C so wf.1.2
    have h3 := sndE z X sc C so wf.2
    have key : ∀ σ H Q, tE mk F G (.chain x o1 y o2 z p) σ H Q → tChain (rCmp mk o1) (rCmp mk o2) (tE mk F G x) (tE mk F G y) (tE mk F G z) σ H Q := by
      intro σ H Q ⟨a, c, O, ρ, s, w, s', E, ev, q⟩
      rw [evE, Option.bind_eq_some_iff] at ev
      obtain ⟨⟨wx, s1⟩, e1, ev⟩ := ev
      rw [Option.bind_eq_some_iff] at ev
      obtain ⟨⟨wy, s2⟩, e2, ev⟩ := ev
      rw [Option.bind_eq_some_iff] at ev
      obtain ⟨r, e3, ev⟩ := ev
      refine ⟨a, c, O, ρ, s, wx, s1, E, e1, fun v H1 x1 st1 r1 _ => ⟨a, c, O, ρ, s1, wy, s2, E.ext x1 st1, e2, fun u H2 x2 st2 r2 _ => ?_⟩⟩
      have E2 := (E.ext x1 st1).ext x2 st2
      refine ⟨a, c, O, wx, wy, r, .inl (r1.ext x2 E.rO), .inl r2, e3, E.rO, r, rfl, ?_⟩
      cases r with
      | true =>
        refine L2.iteT ?_
        simp only [if_true, Option.bind_eq_some_iff] at ev
        obtain ⟨⟨wz, s3⟩, e4, ev⟩ := ev
        rw [Option.map_eq_some_iff] at ev
        obtain ⟨r', e5, ez⟩ := ev
        simp only [Prod.mk.injEq] at ez
        obtain ⟨ez, es⟩ := ez
        subst ez es
        refine ⟨a, c, O, ρ, s2, wz, s3, E2, e4, fun t H3 x3 st3 r3 _ => ?_⟩
        exact ⟨a, c, O, wy, wz, r', .inl (r2.ext x3 E.rO), .inl r3, e5, E.rO, q _ H3 (x1.trans (x2.trans x3)) st3 rfl (noFresh rfl)⟩
      | false =>
        refine L2.iteF ?_
        simp only [Bool.false_eq_true, if_false, Option.some.injEq, Prod.mk.injEq] at ev
        obtain ⟨ez, es⟩ := ev
        subst ez es
        exact q _ H2 (x1.trans x2) st2 rfl (noFresh rfl)
    have pe : PE X (IE.chain x o1 y o2 z p).ast (tE mk F G (.chain x o1 y o2 z p)) := pe_mono' (pe_chain (op_cmpW C.hK C.rm) (op_cmpW C.hK C.rm) h1.pe h2.pe h3.pe (nomark2 _ _ _ _)) key
    refine ⟨pe, pb_of (fun _ => rfl) pe, ?_⟩
    refine pt_mono' (pt_chain (op_cmpW C.hK C.rm) (op_cmpW C.hK C.rm) h1.pe h2.pe h3.pe (nomark2 _ _ _ _)) ?_
    intro σ H Q ⟨a, c, O, ρ, s, w, s', r, E, ev, tr, q⟩
    have hb : w = .bl r := by
      rw [evE, Option.bind_eq_some_iff] at ev
      obtain ⟨⟨wx, s1⟩, e1, ev⟩ := ev
      rw [Option.bind_eq_some_iff] at ev
      obtain ⟨⟨wy, s2⟩, e2, ev⟩ := ev
      rw [Option.bind_eq_some_iff] at ev
      obtain ⟨r, e3, ev⟩ := ev
      cases r with
      | true =>
        simp only [if_true, Option.bind_eq_some_iff] at ev
        obtain ⟨⟨wz, s3⟩, e4, ev⟩ := ev
        rw [Option.map_eq_some_iff] at ev
        obtain ⟨r', e5, ez⟩ := ev
        simp only [Prod.mk.injEq] at ez
        obtain ⟨ez, es⟩ := ez
        subst ez es
        cases tr; rfl
      | false =>
        simp only [Bool.false_eq_true, if_false, Option.some.injEq, Prod.mk.injEq] at ev
        obtain ⟨ez, es⟩ := ev
        subst ez es
        cases tr; rfl
    subst hb
    exact key σ H _ ⟨a, c, O, ρ, s, _, s', E, ev, fun v H1 x1 st1 r1 _ => ⟨_, r1, q H1 x1 st1⟩⟩
  | .ifx x y z p, X, sc, C, so, wf => by
    unfold wfE at wf
    simp only [Bool.and_eq_true] at wf
    have h1 := sndE x X sc C so wf.1.1
    have h2 := sndE y X sc C so wf.1.2
    have h3 := sndE z X sc C so wf.2
    have pe : PE X (IE.ifx x y z p).ast (tE mk F G (.ifx x y z p)) := by
      refine pe_mono' (pe_ifExp h1.pt h2.pe h3.pe) ?_
      intro σ H Q ⟨a, c, O, ρ, s, w, s', E, ev, q⟩
      rw [evE, Option.bind_eq_some_iff] at ev
      obtain ⟨⟨wx, s1⟩, e1, ev⟩ := ev
      rw [Option.bind_eq_some_iff] at ev
      obtain ⟨r, e3, ev⟩ := ev
      refine ⟨a, c, O, ρ, s, wx, s1, r, E, e1, e3, fun H1 x1 st1 => ?_⟩
      cases r with
      | true => exact L2.iteT ⟨a, c, O, ρ, s1, w, s', E.ext x1 st1, by simpa using ev, fun v H2 x2 st2 r2 _ => q v H2 (x1.trans x2) st2 r2 (noFresh rfl)⟩
      | false => exact L2.iteF ⟨a, c, O, ρ, s1, w, s', E.ext x1 st1, by simpa using ev, fun v H2 x2 st2 r2 _ => q v H2 (x1.trans x2) st2 r2 (noFresh rfl)⟩
    refine ⟨pe, pb_of (fun _ => rfl) pe, ?_⟩
    refine ⟨fun pins sh σ H Q I h => PyProof.Rows.isTrue_IfExp (thn (h1.pt.run pins sh σ H (fun r H1 => if r = true then tT mk F G y σ H1 Q else tT mk F G z σ H1 Q) I ?_) fun r s1 ⟨H1, I1, q1⟩ => ?_)⟩
    · obtain ⟨a, c, O, ρ, s, w, s', r, E, ev, tr, q⟩ := h
      rw [evE, Option.bind_eq_some_iff] at ev
      obtain ⟨⟨wx, s1⟩, e1, ev⟩ := ev
      rw [Option.bind_eq_some_iff] at ev
      obtain ⟨r0, e3, ev⟩ := ev
      refine ⟨a, c, O, ρ, s, wx, s1, r0, E, e1, e3, fun H1 x1 st1 => ?_⟩
      cases r0 with
      | true => exact L2.iteT ⟨a, c, O, ρ, s1, w, s', r, E.ext x1 st1, by simpa using ev, tr, fun H2 x2 st2 => q H2 (x1.trans x2) st2⟩
      | false => exact L2.iteF ⟨a, c, O, ρ, s1, w, s', r, E.ext x1 st1, by simpa using ev, tr, fun H2 x2 st2 => q H2 (x1.trans x2) st2⟩
    · cases r with
      | true => exact h2.pt.run pins s1 σ H1 Q I1 (by simpa using q1)
      | false => exact h3.pt.run pins s1 σ H1 Q I1 (by simpa using q1)
  | .call f es pf p, X, sc, C, so, wf => by
    unfold wfE at wf
    simp only [Bool.and_eq_true] at wf
    obtain ⟨⟨⟨⟨h1, h2⟩, h3⟩, h4⟩, h5⟩ := wf
    obtain ⟨ha, _⟩ := sndEs es X sc C so h5
    obtain ⟨k, fa, fd, ps, hf, hr, hm, hk, hb, har⟩ := (C.fns f (of_decide_eq_true h2)).ex
    refine snd_of C.hK (fun _ => rfl) (fun _ => rfl) ?_
    cases es with
    | nil => cases h1
    | cons e es =>
      refine pe_mono' (pe_call hf hr (so.glb f h3) hm hk hb .nil pass0 ha (by simpa [ndbg] using h4) (starEach_ie _ _ _) (backTo_any _ _ _)) ?_
      intro σ H Q ⟨a, c, O, ρ, s, w, s', E, ev, q⟩
      rw [evE, Option.bind_eq_some_iff] at ev
      obtain ⟨⟨ws, s1⟩, e1, ev⟩ := ev
      refine ⟨a, c, O, ρ, s, ws, s1, E, e1, fun vs H1 x1 st1 r1 => ?_⟩
      have E1 := E.ext x1 st1
      show spF mk F f ps.length (vs ++ []) H1 Q E0
      rw [List.append_nil]
      exact ⟨a, c, O, ws, s1, w, s', har _ _ _ ev, r1, E.rO, E1.dom, st1, ev, fun v H2 x2 st2 r2 => q v H2 (x1.trans x2) st2 r2 (noFresh rfl)⟩
  | .bcall f es pf p, X, sc, C, so, wf => by
    unfold wfE at wf
    simp only [Bool.and_eq_true] at wf
    obtain ⟨⟨⟨⟨h1, h2⟩, h3⟩, h4⟩, h5⟩ := wf
    obtain ⟨_, ha⟩ := sndEs es X sc C so h5
    have hm : (f = "gcd" ∧ X.mg "gcd" = some (.builtin "math.gcd")) ∨ (f = "isqrt" ∧ X.mg "isqrt" = some (.builtin "math.isqrt")) ∨ (f ≠ "gcd" ∧ f ≠ "isqrt" ∧ X.mg f = none) := by
      by_cases z : f = "gcd"
      · rw [if_pos z] at h4; exact .inl ⟨z, C.gcd h4⟩
      · rw [if_neg z] at h4
        by_cases z' : f = "isqrt"
        · rw [if_pos z'] at h4; exact .inr (.inl ⟨z', C.isq h4⟩)
        · rw [if_neg z'] at h4; exact .inr (.inr ⟨z, z', C.blt f (of_decide_eq_true h4)⟩)
    refine snd_of C.hK (fun _ => rfl) (fun _ => rfl) ?_
    cases es with
    | nil => cases h1
    | cons e es =>
      refine pe_mono' (pe_built C.hK C.calm C.rm (of_decide_eq_true h2) (so.glb f h3) hm ha) ?_
      intro σ H Q ⟨a, c, O, ρ, s, w, s', E, ev, q⟩
      rw [evE, Option.bind_eq_some_iff] at ev
      obtain ⟨⟨ws, s1⟩, e1, ev⟩ := ev
      rw [Option.map_eq_some_iff] at ev
      obtain ⟨w', e3, ez⟩ := ev
      simp only [Prod.mk.injEq] at ez
      obtain ⟨ez, es⟩ := ez
      subst ez es
      refine ⟨a, c, O, ρ, s, ws, s1, E, e1, fun vs H1 x1 st1 r1 => ?_⟩
      have E1 := E.ext x1 st1
      exact ⟨a, c, O, ws, w', r1, e3, E.rO, E1.dom, fun v H2 sm r2 fr => q v H2 (x1.trans (Ext.of_same sm)) (rel_same st1 sm) r2 fun hf => (fr (by simpa [fresh] using hf)).pre x1⟩
  | .isinst e K pf pT p, X, sc, C, so, wf => by
    unfold wfE at wf
    simp only [Bool.and_eq_true, decide_eq_true_eq] at wf
    obtain ⟨⟨⟨⟨⟨h1, h2⟩, h3⟩, h4⟩, h5⟩, h6⟩ := wf
    have h := sndE e X sc C so h6
    refine snd_of C.hK (fun _ => rfl) (fun _ => rfl) ?_
    simp only [List.mem_cons, List.not_mem_nil, or_false] at h5
    rcases h5 with rfl | rfl | rfl | rfl | rfl
    · exact pe_isi C.hK h.pe (so.glb _ h1) (C.blt _ h3) (so.glb _ h2) (C.blt _ h4) PyProof.Rows.boot_bool (by decide) (by decide) isi_bool
    · exact pe_isi C.hK h.pe (so.glb _ h1) (C.blt _ h3) (so.glb _ h2) (C.blt _ h4) PyProof.Rows.boot_int (by decide) (by decide) isi_int
    · exact pe_isi C.hK h.pe (so.glb _ h1) (C.blt _ h3) (so.glb _ h2) (C.blt _ h4) boot_str (by decide) (by decide) isi_str
    · exact pe_isi C.hK h.pe (so.glb _ h1) (C.blt _ h3) (so.glb _ h2) (C.blt _ h4) boot_listT (by decide) (by decide) isi_list
    · exact pe_isi C.hK h.pe (so.glb _ h1) (C.blt _ h3) (so.glb _ h2) (C.blt _ h4) boot_tupleT (by decide) (by decide) isi_tuple
  | .idx x y p, X, sc, C, so, wf => by
    unfold wfE at wf
    rw [Bool.and_eq_true] at wf
    have h1 := sndE x X sc C so wf.1
    have h2 := sndE y X sc C so wf.2
    refine snd_of C.hK (fun _ => rfl) (fun _ => rfl) ?_
    refine pe_mono' (pe_ix (ix_idx C.hK) h1.pb h2.pe (plain_ix y)) ?_
    intro σ H Q ⟨a, c, O, ρ, s, w, s', E, ev, q⟩
    rw [evE, Option.bind_eq_some_iff] at ev
    obtain ⟨⟨wx, s1⟩, e1, ev⟩ := ev
    rw [Option.bind_eq_some_iff] at ev
    obtain ⟨⟨wy, s2⟩, e2, ev⟩ := ev
    rw [Option.map_eq_some_iff] at ev
    obtain ⟨w', e3, ez⟩ := ev
    simp only [Prod.mk.injEq] at ez
    obtain ⟨ez, es⟩ := ez
    subst ez es
    refine ⟨a, c, O, ρ, s, wx, s1, E, e1, fun v H1 x1 st1 r1 => ⟨a, c, O, ρ, s1, wy, s2, E.ext x1 st1, e2, fun u H2 x2 st2 r2 _ => ?_⟩⟩
    exact ⟨a, c, O, wx, wy, w', r1.ext x2 E.rO, r2, e3, E.rO, fun z r3 => q z H2 (x1.trans x2) st2 r3 (noFresh rfl)⟩
  | .slice x lo hi ps p, X, sc, C, so, wf => by
    unfold wfE at wf
    simp only [Bool.and_eq_true] at wf
    have h1 := sndE x X sc C so wf.1.1
    have h2 := sndO lo X sc C so wf.1.2
    have h3 := sndO hi X sc C so wf.2
    refine snd_of C.hK (fun _ => rfl) (fun _ => rfl) ?_
    refine pe_mono' (pe_slice (sl_rep C.hK) h1.pb h2 h3) ?_
    intro σ H Q ⟨a, c, O, ρ, s, w, s', E, ev, q⟩
    rw [evE, Option.bind_eq_some_iff] at ev
    obtain ⟨⟨wx, s1⟩, e1, ev⟩ := ev
    rw [Option.bind_eq_some_iff] at ev
    obtain ⟨⟨l, s2⟩, e2, ev⟩ := ev
    rw [Option.bind_eq_some_iff] at ev
    obtain ⟨⟨h, s3⟩, e3, ev⟩ := ev
    rw [Option.map_eq_some_iff] at ev
    obtain ⟨w', e4, ez⟩ := ev
    simp only [Prod.mk.injEq] at ez
    obtain ⟨ez, es⟩ := ez
    subst ez es
    refine ⟨a, c, O, ρ, s, wx, s1, E, e1, fun v H1 x1 st1 r1 => ⟨a, c, O, ρ, s1, l, s2, E.ext x1 st1, e2, fun H2 x2 st2 => ⟨a, c, O, ρ, s2, h, s3, (E.ext x1 st1).ext x2 st2, e3, fun H3 x3 st3 => ?_⟩⟩⟩
    have E3 := ((E.ext x1 st1).ext x2 st2).ext x3 st3
    exact ⟨a, c, O, wx, w', (r1.ext x2 E.rO).ext x3 E.rO, e4, E.rO, E3.dom, fun z H4 sm r4 fr => q z H4 (x1.trans (x2.trans (x3.trans (Ext.of_same sm)))) (rel_same st3 sm) r4 fun _ => fr.pre (x1.trans (x2.trans x3))⟩
  | .revsl x k p1 p2 p3 p, X, sc, C, so, wf => by
    unfold wfE at wf
    have h1 := sndE x X sc C so wf
    refine snd_of C.hK (fun _ => rfl) (fun _ => rfl) ?_
    refine pe_mono' (pe_revA h1.pb) ?_
    intro σ H Q ⟨a, c, O, ρ, s, w, s', E, ev, q⟩
    rw [evE, Option.bind_eq_some_iff] at ev
    obtain ⟨⟨wx, s1⟩, e1, ev⟩ := ev
    dsimp only at ev
    split at ev
    · cases ev
      refine ⟨a, c, O, ρ, s, _, _, E, e1, fun v H1 x1 st1 r1 => ?_⟩
      have E1 := E.ext x1 st1
      obtain ⟨b, vs, rfl, q1, _, rr⟩ := r1.lst E.rO
      refine ⟨b, vs, rfl, .inl ⟨q1.elim .inl fun z => .inr (C.hK a c ▸ z), fun p np => ?_⟩⟩
      exact q _ _ (x1.trans (Ext.laid np)) (rel_same st1 (same_laid np)) (rep_lst_new E.rO E1.dom np rr.reverse) fun _ => (fresh_new E.rO np rr.reverse).pre x1
    · cases ev
      refine ⟨a, c, O, ρ, s, _, _, E, e1, fun v H1 x1 st1 r1 => ?_⟩
      obtain ⟨b, vs, rfl, q1, rr⟩ := r1.tup
      refine ⟨b, vs, rfl, .inr ⟨C.hK a c ▸ q1, fun p np => ?_⟩⟩
      exact q _ _ (x1.trans (Ext.laid np)) (rel_same st1 (same_laid np)) (rep_tup_new E.rO np rr.reverse) fun _ => fresh_no (by intro l z; cases z)
    · cases ev
  | .tup es k p, X, sc, C, so, wf => by
    unfold wfE at wf
    obtain ⟨ha, _⟩ := sndEs es X sc C so wf
    refine snd_of C.hK (fun _ => rfl) (fun _ => rfl) ?_
    refine pe_mono' (pe_tup ha) ?_
    intro σ H Q ⟨a, c, O, ρ, s, w, s', E, ev, q⟩
    rw [evE, Option.bind_eq_some_iff] at ev
    obtain ⟨⟨ws, s1⟩, e1, ev⟩ := ev
    dsimp only at ev
    split at ev
    · rename_i hz
      simp only [Option.some.injEq, Prod.mk.injEq] at ev
      obtain ⟨ez, es⟩ := ev
      subst ez es
      exact ⟨a, c, O, ρ, s, ws, s1, E, e1, fun vs H1 x1 st1 r1 => ⟨by rw [← r1.length]; exact hz, fun p np => q _ _ (x1.trans (Ext.laid np)) (rel_same st1 (same_laid np)) (rep_tup_new E.rO np r1) (noFresh rfl)⟩⟩
    · cases ev
  | .lst es p, X, sc, C, so, wf => by
    unfold wfE at wf
    obtain ⟨ha, _⟩ := sndEs es X sc C so wf
    refine snd_of C.hK (fun _ => rfl) (fun _ => rfl) ?_
    refine pe_mono' (pe_lst ha) ?_
    intro σ H Q ⟨a, c, O, ρ, s, w, s', E, ev, q⟩
    rw [evE, Option.bind_eq_some_iff] at ev
    obtain ⟨⟨ws, s1⟩, e1, ev⟩ := ev
    dsimp only at ev
    split at ev
    · rename_i hz
      simp only [Option.some.injEq, Prod.mk.injEq] at ev
      obtain ⟨ez, es⟩ := ev
      subst ez es
      refine ⟨a, c, O, ρ, s, ws, s1, E, e1, fun vs H1 x1 st1 r1 => ⟨by rw [← r1.length]; exact hz, fun p np => ?_⟩⟩
      have E1 := E.ext x1 st1
      exact q _ _ (x1.trans (Ext.laid np)) (rel_same st1 (same_laid np)) (rep_lst_new E.rO E1.dom np r1) fun _ => (fresh_new E.rO np r1).pre x1
    · cases ev
  | .lc elt tg it ifs scope own p, X, sc, C, so, wf => by
    unfold wfE at wf
    simp only [Bool.and_eq_true] at wf
    obtain ⟨⟨⟨⟨⟨h1, h2⟩, h3⟩, h4⟩, h5⟩, h6⟩ := wf
    have hi := sndI it true tg X sc C so h2
    have ok := blk_ok so h1
    have hsub : ∀ i ∈ slotsT tg, i ∈ own.map (·.2) := fun i hi => of_decide_eq_true (List.all_eq_true.mp h4 i hi)
    have hg : ∀ (s : Shared) (H : Hp) (Cc : Addr) (cl : List (Str × Addr)) (fp : List Addr), PG (X.blk s H scope (compEnvC scope cl Cc X.env) fp) tg.ast (tG mk tg) :=
      fun s H Cc cl fp => sndT mk (X := X.blk s H scope (compEnvC scope cl Cc X.env) fp) C.hK C.calm C.nd (scOk_blk X s H scope Cc cl fp) tg h3
    have ht : ∀ (s : Shared) (H : Hp) (Cc : Addr) (cl : List (Str × Addr)) (fp : List Addr), PTs (X.blk s H scope (compEnvC scope cl Cc X.env) fp) ifs.asts (tIf mk F G ifs) :=
      fun s H Cc cl fp => sndIf ifs _ scope (C.blk s H scope _ fp) (scOk_blk X s H scope Cc cl fp) h5
    have he : ∀ (s : Shared) (H : Hp) (Cc : Addr) (cl : List (Str × Addr)) (fp : List Addr), PE (X.blk s H scope (compEnvC scope cl Cc X.env) fp) elt.ast (tE mk F G elt) :=
      fun s H Cc cl fp => (sndE elt _ scope (C.blk s H scope _ fp) (scOk_blk X s H scope Cc cl fp) h6).pe
    refine snd_of C.hK (fun _ => rfl) (fun _ => rfl) ?_
    exact pe_mono' (pe_lc C.calm C.nd hi ok hg ht he (folded_ii it X.env)) (lc_ok C.hK C.calm C.nd hi ok hsub hg ht he)
  | .gen any_ g x it scope px pf pg p, X, sc, C, so, wf => by
    unfold wfE at wf
    simp only [Bool.and_eq_true] at wf
    obtain ⟨⟨⟨⟨⟨⟨⟨⟨⟨⟨htb, h1⟩, h2⟩, h3⟩, h4⟩, h5⟩, h6⟩, h7⟩, h8⟩, h9⟩, h10⟩ := wf
    obtain ⟨cc, P, TB, hcode, TP⟩ := C.tab htb
    have hi := (sndE it X sc C so h1).pe
    have hk : scope.kind = .function := by revert h4; cases scope.kind <;> intro h4 <;> first | rfl | cases h4
    have hnm : ∀ y ∈ scope.names, y.2 ≠ .cell ∧ y.2 ≠ .free := fun y hy => by
      have := List.all_eq_true.mp h6 y hy
      refine ⟨fun z => ?_, fun z => ?_⟩ <;> (rw [z] at this; cases this)
    have GS : GxR.GenS X.env scope x := ⟨hk, by simpa using h5, fun y hy => (hnm y hy).1, of_decide_eq_true h7, of_decide_eq_true h8, fun y hy z => absurd z (hnm y hy).2⟩
    refine snd_of C.hK (fun _ => rfl) (fun _ => rfl) ?_
    refine pe_mono' (pe_gen (px := px) (p := pf) (pos := p) (gpos := pg) (elt := g.ast x) C.rm (so.glb _ h2) (C.blt _ (of_decide_eq_true h3)) TB hcode GS hi (fun v => by cases it <;> first | rfl | cases h10)) ?_
    intro σ H Q ⟨a, c, O, ρ, s, w, s', E, ev, q⟩
    rw [evE, Option.bind_eq_some_iff] at ev
    obtain ⟨⟨y, s1⟩, e1, ev⟩ := ev
    dsimp only at ev
    split at ev
    · rename_i l
      rw [Option.map_eq_some_iff] at ev
      obtain ⟨bs, e2, ez⟩ := ev
      simp only [Prod.mk.injEq] at ez
      obtain ⟨ez, es⟩ := ez
      subst ez es
      refine ⟨a, c, O, ρ, s, .tup l, s1, E, e1, fun v H1 x1 st1 r1 _ => ?_⟩
      obtain ⟨ta, tvs, rfl, tq, tr⟩ := r1
      have tq' : SqT X.K H1 ta tvs := C.hK a c ▸ tq
      obtain ⟨ps, hP, hps⟩ := TP.has a c s1 H1 st1
      refine ⟨ta, tvs, bs, rfl, tq', ⟨ps, hP, hps⟩, (tstAll_len e2).trans tr.length, fun H2 td => ?_, fun pins u its I hv => elt_ge hk (of_decide_eq_true h8) (by simpa [ndbg] using h9) (C.hK a c) e2 tr I hv hP⟩
      refine q _ _ (x1.trans ?_) (TP.keep a c s1 H1 H2 st1 td) rfl (noFresh rfl)
      obtain ⟨ps', more, z1, z2, z3, z4, z5⟩ := td
      intro b o e
      by_cases hb : b = P
      · subst hb
        rw [z1] at e; cases e
        exact .inr (.inr ⟨ps', more, rfl, z3, fun _ => z4⟩)
      · exact .inl (by rw [z5 b hb]; exact e)
    · cases ev
  | .lc2 elt tg it ifs tg1 it1 ifs1 scope own vs1 p, X, sc, C, so, wf => by
    unfold wfE at wf
    simp only [Bool.and_eq_true] at wf
    obtain ⟨⟨⟨⟨⟨⟨⟨⟨⟨⟨h1, h2⟩, h3⟩, h4⟩, h5⟩, k2⟩, k3⟩, k4⟩, k6⟩, k5⟩, h6⟩ := wf
    have hi := sndI it true tg X sc C so h2
    have ok := blk_ok so h1
    have hsub : ∀ i ∈ slotsT tg, i ∈ own.map (·.2) := fun i hi => of_decide_eq_true (List.all_eq_true.mp h4 i hi)
    have hsub1 : ∀ i ∈ slotsT tg1, i ∈ vs1 := fun i hi => of_decide_eq_true (List.all_eq_true.mp k4 i hi)
    have hvs : ∀ i ∈ vs1, i ∈ own.map (·.2) := fun i hi => of_decide_eq_true (List.all_eq_true.mp k6 i hi)
    have hg : ∀ (s : Shared) (H : Hp) (Cc : Addr) (cl : List (Str × Addr)) (fp : List Addr), PG (X.blk s H scope (compEnvC scope cl Cc X.env) fp) tg.ast (tG mk tg) :=
      fun s H Cc cl fp => sndT mk (X := X.blk s H scope (compEnvC scope cl Cc X.env) fp) C.hK C.calm C.nd (scOk_blk X s H scope Cc cl fp) tg h3
    have hg1 : ∀ (s : Shared) (H : Hp) (Cc : Addr) (cl : List (Str × Addr)) (fp : List Addr), PG (X.blk s H scope (compEnvC scope cl Cc X.env) fp) tg1.ast (tG mk tg1) :=
      fun s H Cc cl fp => sndT mk (X := X.blk s H scope (compEnvC scope cl Cc X.env) fp) C.hK C.calm C.nd (scOk_blk X s H scope Cc cl fp) tg1 k3
    have ht : ∀ (s : Shared) (H : Hp) (Cc : Addr) (cl : List (Str × Addr)) (fp : List Addr), PTs (X.blk s H scope (compEnvC scope cl Cc X.env) fp) ifs.asts (tIf mk F G ifs) :=
      fun s H Cc cl fp => sndIf ifs _ scope (C.blk s H scope _ fp) (scOk_blk X s H scope Cc cl fp) h5
    have ht1 : ∀ (s : Shared) (H : Hp) (Cc : Addr) (cl : List (Str × Addr)) (fp : List Addr), PTs (X.blk s H scope (compEnvC scope cl Cc X.env) fp) ifs1.asts (tIf mk F G ifs1) :=
      fun s H Cc cl fp => sndIf ifs1 _ scope (C.blk s H scope _ fp) (scOk_blk X s H scope Cc cl fp) k5
    have hi1 : ∀ (s : Shared) (H : Hp) (Cc : Addr) (cl : List (Str × Addr)) (fp : List Addr), PI (X.blk s H scope (compEnvC scope cl Cc X.env) fp) tg1.ast it1.ast (tI mk F G false it1) :=
      fun s H Cc cl fp => sndI it1 false tg1 _ scope (C.blk s H scope _ fp) (scOk_blk X s H scope Cc cl fp) k2
    have he : ∀ (s : Shared) (H : Hp) (Cc : Addr) (cl : List (Str × Addr)) (fp : List Addr), PE (X.blk s H scope (compEnvC scope cl Cc X.env) fp) elt.ast (tE mk F G elt) :=
      fun s H Cc cl fp => (sndE elt _ scope (C.blk s H scope _ fp) (scOk_blk X s H scope Cc cl fp) h6).pe
    refine snd_of C.hK (fun _ => rfl) (fun _ => rfl) ?_
    exact pe_mono' (pe_lc2 C.calm C.nd hi ok hvs hg ht hi1 hg1 ht1 he (folded_ii it X.env) (fun env x => folded_ii it1 env x)) (lc2_ok C.hK C.calm hsub hsub1)
theorem sndEs {T : Tab} : ∀ (es : IEs) (X : Cx) (sc : Scope), CxOk mk F G T X → ScOk X sc → wfEs T X.N sc es = true → PA X es.ast (tEs mk F G es) ∧ PA X es.ast (tBs mk F G es)
  | .nil, X, sc, C, so, wf => by
    refine ⟨pa_mono' pa_nil ?_, pa_mono' pa_nil ?_⟩
    · intro σ H Q ⟨a, c, O, ρ, s, ws, s', E, ev, q⟩
      rw [evEs] at ev
      cases ev
      exact q _ H Ext.refl E.st rfl
    · intro σ H Q ⟨a, c, O, ρ, s, ws, s', E, ev, q⟩
      rw [evBs] at ev
      cases ev
      exact q _ H Ext.refl E.st .nil
  | .cons e es, X, sc, C, so, wf => by
    unfold wfEs at wf
    rw [Bool.and_eq_true] at wf
    have h1 := sndE e X sc C so wf.1
    obtain ⟨h2, h3⟩ := sndEs es X sc C so wf.2
    refine ⟨pa_mono' (pa_cons h1.pe h2 (starEach_ie _ _ _)) ?_, pa_mono' (pa_cons h1.pb h3 (starEach_ie _ _ _)) ?_⟩
    · intro σ H Q ⟨a, c, O, ρ, s, ws, s', E, ev, q⟩
      rw [evEs, Option.bind_eq_some_iff] at ev
      obtain ⟨⟨x, s1⟩, e1, ev⟩ := ev
      rw [Option.map_eq_some_iff] at ev
      obtain ⟨⟨r, s2⟩, e2, ez⟩ := ev
      simp only [Prod.mk.injEq] at ez
      obtain ⟨ez, es⟩ := ez
      subst ez es
      exact ⟨a, c, O, ρ, s, x, s1, E, e1, fun v H1 x1 st1 r1 _ => ⟨a, c, O, ρ, s1, r, s2, E.ext x1 st1, e2, fun vs H2 x2 st2 r2 => q _ H2 (x1.trans x2) st2 ⟨v, vs, rfl, r1.ext x2 E.rO, r2⟩⟩⟩
    · intro σ H Q ⟨a, c, O, ρ, s, ws, s', E, ev, q⟩
      rw [evBs, Option.bind_eq_some_iff] at ev
      obtain ⟨⟨x, s1⟩, e1, ev⟩ := ev
      rw [Option.map_eq_some_iff] at ev
      obtain ⟨⟨r, s2⟩, e2, ez⟩ := ev
      simp only [Prod.mk.injEq] at ez
      obtain ⟨ez, es⟩ := ez
      subst ez es
      exact ⟨a, c, O, ρ, s, x, s1, E, e1, fun v H1 x1 st1 r1 => ⟨a, c, O, ρ, s1, r, s2, E.ext x1 st1, e2, fun vs H2 x2 st2 r2 => q _ H2 (x1.trans x2) st2 (.cons (r1.ext x2 E.rO) r2)⟩⟩
theorem sndBool {T : Tab} : ∀ (es : IEs) (X : Cx) (sc : Scope) (op : BoolOp) (p : Pos), CxOk mk F G T X → ScOk X sc → neEs es = true → wfEs T X.N sc es = true →
    PE X (.BoolOp op es.ast p) (tBoV mk F G op es) ∧ PW X (.BoolOp op es.ast p) (tBoT mk F G op es)
  | .nil, X, sc, op, p, C, so, h0, wf => by cases h0
  | .cons e .nil, X, sc, op, p, C, so, h0, wf => by
    unfold wfEs at wf
    rw [Bool.and_eq_true] at wf
    have h1 := sndE e X sc C so wf.1
    refine ⟨pe_mono' (pe_one h1.pe) ?_, ?_⟩
    · intro σ H Q ⟨a, c, O, ρ, s, w, s', E, ev, q⟩
      exact ⟨a, c, O, ρ, s, w, s', E, by rw [evBool] at ev; exact ev, fun v H1 x1 st1 r1 _ => q v H1 x1 st1 r1⟩
    · have key : ∀ σ H Q, tBoT mk F G op (.cons e .nil) σ H Q → tT mk F G e σ H Q := fun σ H Q ⟨a, c, O, ρ, s, w, s', r, E, ev, tr, q⟩ => ⟨a, c, O, ρ, s, w, s', r, E, by rw [evBool] at ev; exact ev, tr, q⟩
      cases op
      · exact pw_mono' (pw_and1 h1.pt) key
      · exact pw_mono' (pw_or1 h1.pt) key
  | .cons e (.cons e2 es), X, sc, op, p, C, so, h0, wf => by
    unfold wfEs at wf
    rw [Bool.and_eq_true] at wf
    have h1 := sndE e X sc C so wf.1
    obtain ⟨h2, h3⟩ := sndBool (.cons e2 es) X sc op p C so rfl wf.2
    cases op
    · refine ⟨pe_mono' (pe_andT h1.pe h2) ?_, pw_mono' (pw_and h1.pt h3) ?_⟩
      · intro σ H Q ⟨a, c, O, ρ, s, w, s', E, ev, q⟩
        rw [evBool, Option.bind_eq_some_iff] at ev
        obtain ⟨⟨x, s1⟩, e1, ev⟩ := ev
        rw [Option.bind_eq_some_iff] at ev
        obtain ⟨r, e3, ev⟩ := ev
        refine ⟨a, c, O, ρ, s, x, s1, E, e1, fun v H1 x1 st1 r1 _ => ⟨r, tru_of C.hK (.inl r1) e3, ?_⟩⟩
        cases r with
        | true => exact L2.iteT ⟨a, c, O, ρ, s1, w, s', E.ext x1 st1, by simpa [isOr] using ev, fun u H2 x2 st2 r2 => q u H2 (x1.trans x2) st2 r2⟩
        | false =>
          simp only [isOr, if_true, Option.some.injEq, Prod.mk.injEq] at ev
          obtain ⟨ez, es⟩ := ev
          subst ez es
          exact L2.iteF (q v H1 x1 st1 r1)
      · intro σ H Q ⟨a, c, O, ρ, s, w, s', rr, E, ev, tr, q⟩
        rw [evBool, Option.bind_eq_some_iff] at ev
        obtain ⟨⟨x, s1⟩, e1, ev⟩ := ev
        rw [Option.bind_eq_some_iff] at ev
        obtain ⟨r, e3, ev⟩ := ev
        refine ⟨a, c, O, ρ, s, x, s1, r, E, e1, e3, fun H1 x1 st1 => ?_⟩
        cases r with
        | true => exact L2.iteT ⟨a, c, O, ρ, s1, w, s', rr, E.ext x1 st1, by simpa [isOr] using ev, tr, fun H2 x2 st2 => q H2 (x1.trans x2) st2⟩
        | false =>
          simp only [isOr, if_true, Option.some.injEq, Prod.mk.injEq] at ev
          obtain ⟨ez, es⟩ := ev
          subst ez es
          rw [e3] at tr
          cases tr
          exact L2.iteF (q H1 x1 st1)
    · refine ⟨pe_mono' (pe_orT h1.pe h2) ?_, pw_mono' (pw_or h1.pt h3) ?_⟩
      · intro σ H Q ⟨a, c, O, ρ, s, w, s', E, ev, q⟩
        rw [evBool, Option.bind_eq_some_iff] at ev
        obtain ⟨⟨x, s1⟩, e1, ev⟩ := ev
        rw [Option.bind_eq_some_iff] at ev
        obtain ⟨r, e3, ev⟩ := ev
        refine ⟨a, c, O, ρ, s, x, s1, E, e1, fun v H1 x1 st1 r1 _ => ⟨r, tru_of C.hK (.inl r1) e3, ?_⟩⟩
        cases r with
        | false => exact L2.iteF ⟨a, c, O, ρ, s1, w, s', E.ext x1 st1, by simpa [isOr] using ev, fun u H2 x2 st2 r2 => q u H2 (x1.trans x2) st2 r2⟩
        | true =>
          simp only [isOr, if_true, Option.some.injEq, Prod.mk.injEq] at ev
          obtain ⟨ez, es⟩ := ev
          subst ez es
          exact L2.iteT (q v H1 x1 st1 r1)
      · intro σ H Q ⟨a, c, O, ρ, s, w, s', rr, E, ev, tr, q⟩
        rw [evBool, Option.bind_eq_some_iff] at ev
        obtain ⟨⟨x, s1⟩, e1, ev⟩ := ev
        rw [Option.bind_eq_some_iff] at ev
        obtain ⟨r, e3, ev⟩ := ev
        refine ⟨a, c, O, ρ, s, x, s1, r, E, e1, e3, fun H1 x1 st1 => ?_⟩
        cases r with
        | false => exact L2.iteF ⟨a, c, O, ρ, s1, w, s', rr, E.ext x1 st1, by simpa [isOr] using ev, tr, fun H2 x2 st2 => q H2 (x1.trans x2) st2⟩
        | true =>
          simp only [isOr, if_true, Option.some.injEq, Prod.mk.injEq] at ev
          obtain ⟨ez, es⟩ := ev
          subst ez es
          rw [e3] at tr
          cases tr
          exact L2.iteT (q H1 x1 st1)
theorem sndO {T : Tab} : ∀ (e : IO) (X : Cx) (sc : Scope), CxOk mk F G T X → ScOk X sc → wfO T X.N sc e = true → PO X e.ast (tO mk F G e)
  | .none, X, sc, C, so, wf => po_mono' po_none fun σ H Q ⟨a, c, O, ρ, s, r, s', E, ev, q⟩ => by rw [evO] at ev; cases ev; exact q H Ext.refl E.st
  | .some e, X, sc, C, so, wf => by
    unfold wfO at wf
    have h1 := sndE e X sc C so wf
    refine po_mono' (po_some h1.pe) ?_
    intro σ H Q ⟨a, c, O, ρ, s, r, s', E, ev, q⟩
    rw [evO, Option.bind_eq_some_iff] at ev
    obtain ⟨⟨x, s1⟩, e1, ev⟩ := ev
    dsimp only at ev
    split at ev
    · cases ev
      exact ⟨a, c, O, ρ, s, _, _, E, e1, fun v H1 x1 st1 r1 _ => ⟨_, r1, q H1 x1 st1⟩⟩
    · cases ev
theorem sndIf {T : Tab} : ∀ (e : IO) (X : Cx) (sc : Scope), CxOk mk F G T X → ScOk X sc → wfO T X.N sc e = true → PTs X e.asts (tIf mk F G e)
  | .none, X, sc, C, so, wf => pts_mono' pts_nil fun σ H Q ⟨a, c, O, ρ, s, r, s', E, ev, q⟩ => by rw [evIf] at ev; cases ev; exact q H Ext.refl E.st
  | .some e, X, sc, C, so, wf => by
    unfold wfO at wf
    have h1 := sndE e X sc C so wf
    refine pts_mono' (pts_one h1.pt) ?_
    intro σ H Q ⟨a, c, O, ρ, s, r, s', E, ev, q⟩
    rw [evIf, Option.bind_eq_some_iff] at ev
    obtain ⟨⟨x, s1⟩, e1, ev⟩ := ev
    rw [Option.map_eq_some_iff] at ev
    obtain ⟨b, e2, ez⟩ := ev
    simp only [Prod.mk.injEq] at ez
    obtain ⟨ez, es⟩ := ez
    subst ez es
    exact ⟨a, c, O, ρ, s, x, s1, b, E, e1, e2, q⟩
theorem sndI {T : Tab} : ∀ (it : II) (b : Bool) (tg : IT) (X : Cx) (sc : Scope), CxOk mk F G T X → ScOk X sc → wfI T X.N sc tg it = true → PI X tg.ast it.ast (tI mk F G b it)
  | .seq e, b, tg, X, sc, C, so, wf => by
    unfold wfI at wf
    have h1 := sndE e X sc C so wf
    refine pi_mono' (pi_any (opd_of mk F G h1.pe h1.pb b)) ?_
    intro σ H R ⟨a, c, O, ρ, s, ws, s', E, ev, q⟩
    rw [evI, Option.bind_eq_some_iff] at ev
    obtain ⟨⟨x, s1⟩, e1, ev⟩ := ev
    refine ⟨a, c, O, ρ, s, x, s1, E, e1, fun v H1 x1 st1 r1 => ?_⟩
    dsimp only at ev
    split at ev
    · cases ev
      obtain ⟨p, vs, rfl, q1, rr, hn⟩ := r1.lst
      refine ⟨p, rfl, .inl ⟨⟨vs, .inl q1⟩, q _ H1 x1 st1 fun O' O1 c1 c2 c3 c4 => it_list C.hK q1 rr c1 (hn O1 (fun x h => c1 x (c3 x h)) c4)⟩⟩
    · cases ev
      obtain ⟨p, vs, rfl, q1, rr⟩ := tup_of C.hK r1.b
      refine ⟨p, rfl, .inr ⟨⟨vs, q1⟩, q _ H1 x1 st1 fun O' O1 c1 c2 c3 c4 => it_tuple C.hK q1 rr c1⟩⟩
    · cases ev
  | .range es pf p, b, tg, X, sc, C, so, wf => by
    unfold wfI at wf
    simp only [Bool.and_eq_true, decide_eq_true_eq] at wf
    obtain ⟨⟨⟨⟨h1, h2⟩, h3⟩, h4⟩, h5⟩ := wf
    obtain ⟨ha, _⟩ := sndEs es X sc C so h5
    have key : ∀ σ H R, tI mk F G b (.range es pf p) σ H R → ∃ (a c : Addr) (O : Addr → Prop) (ρ : List Sl) (s : S) (ws : List W) (l : List W) (s' : S), ERel (mk a c) O σ ρ s H ∧ evEs F G es ρ s = some (ws, s') ∧
        (match ws with
          | [.int j] => if -(2 ^ 62) ≤ j ∧ j < 2 ^ 62 then some ((List.range j.toNat).map fun i => W.int (0 + (i : Nat)), s') else none
          | [.int i, .int j] => if -(2 ^ 62) ≤ i ∧ i < 2 ^ 62 ∧ -(2 ^ 62) ≤ j ∧ j < 2 ^ 62 then some ((List.range (j - i).toNat).map fun k => W.int (i + (k : Nat)), s') else none
          | [.int i, .int j, .int (-1)] => if -(2 ^ 62) ≤ i ∧ i < 2 ^ 62 ∧ -(2 ^ 62) ≤ j ∧ j < 2 ^ 62 then some ((List.range (i - j).toNat).map fun k => W.int (i - (k : Nat)), s') else none
          | _ => none) = some (l, s') ∧
        ∀ J H', Ext (mk a c) H H' → (mk a c).rel s' H' → (∀ O' O1 : Addr → Prop, (∀ x, O' x → O x ∨ H' x = none) → (∀ b, (mk a c).R b → O' b) → (∀ x, O1 x → O' x) → (b = true → ∀ x, O1 x → (mk a c).R x ∨ H' x = none) → ItOk (mk a c) O' O1 l J H') → R J H' := by
      intro σ H R ⟨a, c, O, ρ, s, ws, s', E, ev, q⟩
      rw [evI, Option.bind_eq_some_iff] at ev
      obtain ⟨⟨x, s1⟩, e1, ev⟩ := ev
      have hs : s1 = s' := by
        dsimp only at ev
        split at ev
        · split at ev
          · cases ev; rfl
          · cases ev
        · split at ev
          · cases ev; rfl
          · cases ev
        · split at ev
          · cases ev; rfl
          · cases ev
        · cases ev
      subst hs
      exact ⟨a, c, O, ρ, s, x, ws, s1, E, e1, ev, q⟩
    cases es with
    | nil => cases h3
    | cons e1 es =>
      cases es with
      | nil =>
        refine pi_mono' (pi_range1 (so.glb _ h1) (C.blt _ h2) ha (starEach_ie _ _ _)) ?_
        intro σ H R h
        obtain ⟨a, c, O, ρ, s, ws, l, s', E, ev, em, q⟩ := key σ H R h
        have hl : ws.length = 1 := by
          rw [evEs, Option.bind_eq_some_iff] at ev
          obtain ⟨⟨x, s1⟩, _, ev⟩ := ev
          rw [Option.map_eq_some_iff] at ev
          obtain ⟨⟨r, s2⟩, e2, ez⟩ := ev
          rw [evEs] at e2
          cases e2
          cases ez
          rfl
        refine ⟨a, c, O, ρ, s, ws, s', E, ev, fun vs H1 x1 st1 r1 => ?_⟩
        split at em
        · rename_i j
          split at em
          · rename_i hb
            cases em
            obtain ⟨v, r, rfl, rv, rn⟩ := r1
            cases rn
            cases rv
            exact ⟨j, rfl, hb.1, hb.2, q _ H1 x1 st1 fun O' O1 _ _ _ _ => it_range 0 _⟩
          · cases em
        · simp at hl
        · simp at hl
        · cases em
      | cons e2 es =>
        cases es with
        | nil =>
          refine pi_mono' (pi_range2 (so.glb _ h1) (C.blt _ h2) ha (by show starEach [e1.ast, e2.ast] X.env = _; rw [starEach_ie, starEach_ie]; rfl) (starEach_ie _ _ _)) ?_
          intro σ H R h
          obtain ⟨a, c, O, ρ, s, ws, l, s', E, ev, em, q⟩ := key σ H R h
          have hl : ws.length = 2 := by
            rw [evEs, Option.bind_eq_some_iff] at ev
            obtain ⟨⟨x, s1⟩, _, ev⟩ := ev
            rw [Option.map_eq_some_iff] at ev
            obtain ⟨⟨r, s2⟩, e2, ez⟩ := ev
            rw [evEs, Option.bind_eq_some_iff] at e2
            obtain ⟨⟨x, s1⟩, _, e2⟩ := e2
            rw [Option.map_eq_some_iff] at e2
            obtain ⟨⟨r', s2⟩, e3, ez2⟩ := e2
            rw [evEs] at e3
            cases e3
            cases ez2
            cases ez
            rfl
          refine ⟨a, c, O, ρ, s, ws, s', E, ev, fun vs H1 x1 st1 r1 => ?_⟩
          split at em
          · simp at hl
          · rename_i i j
            split at em
            · rename_i hb
              cases em
              obtain ⟨v, r, rfl, rv, v2, r2, rfl, rv2, rn⟩ := r1
              cases rn
              cases rv
              cases rv2
              exact ⟨i, j, rfl, hb, q _ H1 x1 st1 fun O' O1 _ _ _ _ => it_range i _⟩
            · cases em
          · simp at hl
          · cases em
        | cons e3 es =>
          cases es with
          | cons e4 es => simp [lenEs] at h4
          | nil =>
            refine pi_mono' (pi_range3 (so.glb _ h1) (C.blt _ h2) ha (starEach_ie _ _ _) (backTo_any _ (.cons e2 (.cons e3 .nil)) _)) ?_
            intro σ H R h
            obtain ⟨a, c, O, ρ, s, ws, l, s', E, ev, em, q⟩ := key σ H R h
            have hl : ws.length = 3 := by
              rw [evEs, Option.bind_eq_some_iff] at ev
              obtain ⟨⟨x, s1⟩, _, ev⟩ := ev
              rw [Option.map_eq_some_iff] at ev
              obtain ⟨⟨r, s2⟩, e2, ez⟩ := ev
              rw [evEs, Option.bind_eq_some_iff] at e2
              obtain ⟨⟨x, s1⟩, _, e2⟩ := e2
              rw [Option.map_eq_some_iff] at e2
              obtain ⟨⟨r', s2⟩, e3, ez2⟩ := e2
              rw [evEs, Option.bind_eq_some_iff] at e3
              obtain ⟨⟨x, s1⟩, _, e3⟩ := e3
              rw [Option.map_eq_some_iff] at e3
              obtain ⟨⟨r', s2⟩, e4, ez3⟩ := e3
              rw [evEs] at e4
              cases e4
              cases ez3
              cases ez2
              cases ez
              rfl
            refine ⟨a, c, O, ρ, s, ws, s', E, ev, fun vs H1 x1 st1 r1 => ?_⟩
            split at em
            · simp at hl
            · simp at hl
            · rename_i i j
              split at em
              · rename_i hb
                cases em
                obtain ⟨v, r, rfl, rv, v2, r2, rfl, rv2, v3, r3, rfl, rv3, rn⟩ := r1
                cases rn
                cases rv
                cases rv2
                cases rv3
                exact ⟨i, j, -1, _, rfl, RgC.neg hb.1 hb.2.1 hb.2.2.1 hb.2.2.2, q _ H1 x1 st1 fun O' O1 _ _ _ _ => it_down i _⟩
              · cases em
            · cases em
  | .zip x y pf p, b, tg, X, sc, C, so, wf => by
    unfold wfI at wf
    simp only [Bool.and_eq_true, decide_eq_true_eq] at wf
    obtain ⟨⟨⟨⟨h1, h2⟩, h3⟩, h4⟩, h5⟩ := wf
    have hx := sndE x X sc C so h4
    have hy := sndE y X sc C so h5
    cases tg with
    | name _ _ _ => cases h1
    | tup ts kk tp =>
      have ha : PA X [x.ast, y.ast] (tCons (tOpd mk F G b x) (tCons (tOpd mk F G b y) tNil)) := pa_cons (opd_of mk F G hx.pe hx.pb b) (pa_cons (opd_of mk F G hy.pe hy.pb b) pa_nil (starEach_ie y [] _)) (starEach_ie _ _ _)
      refine pi_mono' (pi_zipB (so.glb _ h2) (C.blt _ h3) ha (starEach_ie _ _ _) (backTo_any _ (.cons y .nil) _)) ?_
      intro σ H R ⟨a, c, O, ρ, s, ws, s', E, ev, q⟩
      rw [evI, Option.bind_eq_some_iff] at ev
      obtain ⟨⟨wx, s1⟩, e1, ev⟩ := ev
      rw [Option.bind_eq_some_iff] at ev
      obtain ⟨⟨wy, s2⟩, e2, ev⟩ := ev
      refine ⟨a, c, O, ρ, s, wx, s1, E, e1, fun v H1 x1 st1 r1 => ⟨a, c, O, ρ, s1, wy, s2, E.ext x1 st1, e2, fun u H2 x2 st2 r2 => ?_⟩⟩
      have r1 := r1.ext x2 E.rO
      dsimp only at ev
      have ofL : ∀ {p1 : Addr} {vs : List V}, Rd H2 p1 (.lst vs) → SqB X.K false H2 p1 vs := fun q => (show SqL X.K H2 _ _ from .inl q)
      split at ev
      · cases ev
        obtain ⟨p1, vs, rfl, q1, rr, hn⟩ := r1.lst
        obtain ⟨p2, us, rfl, q2, rr2, hn2⟩ := r2.lst
        exact ⟨false, false, p1, p2, vs, us, rfl, ofL q1, ofL q2, q _ H2 (x1.trans x2) st2 fun O' O1 c1 c2 c3 c4 => it_zipB C.hK (show SqLO O1 H2 p1 vs from ⟨hn O1 (fun x h => c1 x (c3 x h)) c4, q1⟩) rr (show SqLO O1 H2 p2 us from ⟨hn2 O1 (fun x h => c1 x (c3 x h)) c4, q2⟩) rr2 c1 c2⟩
      · cases ev
        obtain ⟨p1, vs, rfl, q1, rr⟩ := tup_of C.hK r1.b
        obtain ⟨p2, us, rfl, q2, rr2⟩ := tup_of C.hK r2.b
        exact ⟨true, true, p1, p2, vs, us, rfl, q1, q2, q _ H2 (x1.trans x2) st2 fun O' O1 c1 c2 c3 c4 => it_zipB C.hK (show SqT (mk a c).K H2 p1 vs from (C.hK a c).symm ▸ q1) rr (show SqT (mk a c).K H2 p2 us from (C.hK a c).symm ▸ q2) rr2 c1 c2⟩
      · cases ev
        obtain ⟨p1, vs, rfl, q1, rr⟩ := tup_of C.hK r1.b
        obtain ⟨p2, us, rfl, q2, rr2, hn2⟩ := r2.lst
        exact ⟨true, false, p1, p2, vs, us, rfl, q1, ofL q2, q _ H2 (x1.trans x2) st2 fun O' O1 c1 c2 c3 c4 => it_zipB C.hK (show SqT (mk a c).K H2 p1 vs from (C.hK a c).symm ▸ q1) rr (show SqLO O1 H2 p2 us from ⟨hn2 O1 (fun x h => c1 x (c3 x h)) c4, q2⟩) rr2 c1 c2⟩
      · cases ev
        obtain ⟨p1, vs, rfl, q1, rr, hn⟩ := r1.lst
        obtain ⟨p2, us, rfl, q2, rr2⟩ := tup_of C.hK r2.b
        exact ⟨false, true, p1, p2, vs, us, rfl, ofL q1, q2, q _ H2 (x1.trans x2) st2 fun O' O1 c1 c2 c3 c4 => it_zipB C.hK (show SqLO O1 H2 p1 vs from ⟨hn O1 (fun x h => c1 x (c3 x h)) c4, q1⟩) rr (show SqT (mk a c).K H2 p2 us from (C.hK a c).symm ▸ q2) rr2 c1 c2⟩
      · cases ev
  | .enum e pf p, b, tg, X, sc, C, so, wf => by
    unfold wfI at wf
    simp only [Bool.and_eq_true, decide_eq_true_eq] at wf
    obtain ⟨⟨⟨h1, h2⟩, h3⟩, h4⟩ := wf
    have hx := sndE e X sc C so h4
    cases tg with
    | name _ _ _ => cases h1
    | tup ts kk tp =>
      have ha : PA X [e.ast] (tCons (tOpd mk F G b e) tNil) := pa_cons (opd_of mk F G hx.pe hx.pb b) pa_nil (starEach_ie e [] _)
      refine pi_mono' (pi_enum (so.glb _ h2) (C.blt _ h3) ha (starEach_ie _ _ _)) ?_
      intro σ H R ⟨a, c, O, ρ, s, ws, s', E, ev, q⟩
      rw [evI, Option.bind_eq_some_iff] at ev
      obtain ⟨⟨wx, s1⟩, e1, ev⟩ := ev
      refine ⟨a, c, O, ρ, s, wx, s1, E, e1, fun v H1 x1 st1 r1 => ?_⟩
      dsimp only at ev
      split at ev
      · cases ev
        obtain ⟨p1, vs, rfl, q1, rr, hn⟩ := r1.lst
        exact ⟨p1, vs, rfl, .inl q1, q _ H1 x1 st1 fun O' O1 c1 c2 c3 c4 => it_enum C.hK q1 rr c1 c2 (hn O1 (fun x h => c1 x (c3 x h)) c4)⟩
      · cases ev
  | .rev e pf p, b, tg, X, sc, C, so, wf => by
    unfold wfI at wf
    simp only [Bool.and_eq_true, decide_eq_true_eq] at wf
    obtain ⟨⟨h2, h3⟩, h4⟩ := wf
    have hx := sndE e X sc C so h4
    refine pi_mono' (RT.pi_revA (so.glb _ h2) (C.blt _ h3) (opd_of mk F G hx.pe hx.pb b) (starEach_ie _ _ _)) ?_
    intro σ H R ⟨a, c, O, ρ, s, ws, s', E, ev, q⟩
    rw [evI, Option.bind_eq_some_iff] at ev
    obtain ⟨⟨wx, s1⟩, e1, ev⟩ := ev
    refine ⟨a, c, O, ρ, s, wx, s1, E, e1, fun v H1 x1 st1 r1 => ?_⟩
    dsimp only at ev
    split at ev
    · cases ev
      obtain ⟨p1, vs, rfl, q1, rr, hn⟩ := r1.lst
      exact ⟨p1, vs, rfl, .inl ⟨.inl q1, q _ H1 x1 st1 fun O' O1 c1 c2 c3 c4 => it_revL C.hK q1 rr c1 (hn O1 (fun x h => c1 x (c3 x h)) c4)⟩⟩
    · cases ev
      obtain ⟨p1, vs, rfl, q1, rr⟩ := tup_of C.hK r1.b
      exact ⟨p1, vs, rfl, .inr ⟨q1, q _ H1 x1 st1 fun O' O1 c1 c2 c3 c4 => it_revT C.hK q1 rr c1⟩⟩
    · cases ev
end
end
end MP

/-! MP9: statements. -/
namespace MP
open PySem PySem.Spec PyProof.Rows L2
section
variable {S : Type}
/-- from (O, H) to (O', H'): what is not owned stands, what is owned more is new -/
structure Evo (Y : Sys S) (O : Addr → Prop) (H : Hp) (O' : Addr → Prop) (H' : Hp) : Prop where
  new : ∀ b, O' b → O b ∨ H b = none
  stp : Stp Y O H H'
  dom : ∀ b o, H b = some o → ∃ o', H' b = some o'
theorem Evo.refl {Y : Sys S} {O : Addr → Prop} {H : Hp} : Evo Y O H O H := ⟨fun _ h => .inl h, Stp.refl, fun _ o h => ⟨o, h⟩⟩
theorem Evo.trans {Y : Sys S} {O O1 O2 : Addr → Prop} {H H1 H2 : Hp} (x : Evo Y O H O1 H1) (y : Evo Y O1 H1 O2 H2) : Evo Y O H O2 H2 where
  new := fun b h => by
    rcases y.new b h with h | h
    · exact x.new b h
    · cases e : H b with
      | none => exact .inr rfl
      | some o => obtain ⟨o', e'⟩ := x.dom b o e; rw [h] at e'; cases e'
  stp := by
    refine ⟨fun a vs e => y.stp.1 a vs (x.stp.1 a vs e), fun a vs e => ?_⟩
    have h1 := x.stp.2 a vs e
    refine ⟨e.1, (y.stp.2 a vs ⟨fun z => ?_, h1.2⟩).2⟩
    rcases x.new a z with z | z
    · exact e.1 z
    · obtain ⟨_, e⟩ := e
      rcases e with e | ⟨_, e⟩ <;> rw [z] at e <;> cases e
  dom := fun b o e => let ⟨o', e'⟩ := x.dom b o e; y.dom b o' e'
theorem Evo.of_ext {Y : Sys S} {O O' : Addr → Prop} {H H' : Hp} (hR : ∀ b, Y.R b → O b) (h : Ext Y H H') (hs : ∀ b, O' b → O b ∨ H b = none) : Evo Y O H O' H' :=
  ⟨hs, Stp.of_ext h hR, fun _ _ e => h.some_of e⟩
abbrev Anch := (Addr → Prop) → Hp → Prop
/-- kept by every step -/
def Stable (Y : Sys S) (A : Anch) : Prop := ∀ O H O' H', A O H → Evo Y O H O' H' → A O' H'
/-- within a def: what stood at the entry stands -/
structure SI (Y : Sys S) (O0 : Addr → Prop) (H0 : Hp) (A : Anch) (O : Addr → Prop) (σ : L2.St) (ρ : List Sl) (s : S) (H : Hp) : Prop where
  er : ERel Y O σ ρ s H
  sub : ∀ b, O0 b → O b
  new : ∀ b, O b → O0 b ∨ H0 b = none
  ext : Ext Y H0 H
  own : ∀ (i : Nat) l a, ρ[i]? = some (.own l) → σ[i]? = some (some (.ref a)) → ¬ O0 a
  anc : A O H
variable {Y : Sys S} {O0 O : Addr → Prop} {H0 H H' : Hp} {A : Anch} {σ : L2.St} {ρ ρ' : List Sl} {s s' : S} {w : W} {v : V}
theorem SI.step (I : SI Y O0 H0 A O σ ρ s H) (hA : Stable Y A) (h : Ext Y H H') (hs : Y.rel s' H') : SI Y O0 H0 A O σ ρ s' H' where
  er := I.er.ext h hs
  sub := I.sub
  new := I.new
  ext := I.ext.trans h
  own := I.own
  anc := hA _ _ _ _ I.anc (Evo.of_ext I.er.rO h fun b h => .inl h)
theorem SI.setVal (I : SI Y O0 H0 A O σ ρ s H) (i : Nat) (r : Rep Y O H w v) : SI Y O0 H0 A O (σ.set i (some v)) (ρ.set i (.val w)) s H where
  er := I.er.set i r
  sub := I.sub
  new := I.new
  ext := I.ext
  own := fun j l a e1 e2 => by
    rcases set_get e1 with ⟨_, e, _⟩ | ⟨n, e1⟩
    · cases e
    · rw [List.getElem?_set_ne n] at e2; exact I.own j l a e1 e2
  anc := I.anc
/-- fewer slots told -/
structure Less (ρ' ρ : List Sl) : Prop where
  len : ρ'.length = ρ.length
  val : ∀ (i : Nat) w, ρ'[i]? = some (.val w) → ρ[i]? = some (.val w)
  own : ∀ (i : Nat) l, ρ'[i]? = some (.own l) → ρ[i]? = some (.own l)
theorem Less.wipe (ρ : List Sl) : ∀ vs, Less (wipeS ρ vs) ρ
  | [] => ⟨rfl, fun _ _ h => h, fun _ _ h => h⟩
  | i :: vs => by
    have h := Less.wipe ρ vs
    refine ⟨(List.length_set ..).trans h.len, fun j w e => ?_, fun j l e => ?_⟩
    · have e' : ((wipeS ρ vs).set i .no)[j]? = some (.val w) := e
      rcases set_get e' with ⟨_, e, _⟩ | ⟨_, e⟩
      · cases e
      · exact h.val j w e
    · have e' : ((wipeS ρ vs).set i .no)[j]? = some (.own l) := e
      rcases set_get e' with ⟨_, e, _⟩ | ⟨_, e⟩
      · cases e
      · exact h.own j l e
theorem SI.less (I : SI Y O0 H0 A O σ ρ s H) (h : Less ρ' ρ) : SI Y O0 H0 A O σ ρ' s H where
  er := { len := h.len.trans I.er.len
          sl := fun i w e => I.er.sl i w (h.val i w e)
          ow := fun i l e => I.er.ow i l (h.own i l e)
          dis := fun i j l m a e1 e2 => I.er.dis i j l m a (h.own i l e1) (h.own j m e2)
          rO := I.er.rO
          dom := I.er.dom
          st := I.er.st }
  sub := I.sub
  new := I.new
  ext := I.ext
  own := fun i l a e => I.own i l a (h.own i l e)
  anc := I.anc
/-- owned lists given up -/
theorem SI.freeze (hA : Stable Y A) : ∀ (esc : List Nat) {O : Addr → Prop}, SI Y O0 H0 A O σ ρ s H → ∃ O' : Addr → Prop, (∀ b, O' b → O b) ∧ SI Y O0 H0 A O' σ (freeze esc ρ) s H
  | [], O, I => ⟨O, fun _ h => h, I⟩
  | i :: r, O, I => by
    obtain ⟨O1, h1, I1⟩ := SI.freeze hA r I
    rw [MP.freeze]
    split
    · rename_i l el
      obtain ⟨a, vs, e1, o, n, e2, rr⟩ := I1.er.ow i l el
      have hsub : ∀ b, (O1 b ∧ b ≠ a) → O1 b := fun b h => h.1
      refine ⟨fun b => O1 b ∧ b ≠ a, fun b h => h1 b h.1, {
        er := { len := (List.length_set ..).trans I1.er.len
                sl := fun j w e => ?_
                ow := fun j m e => ?_
                dis := fun j k m m' b f1 f2 g1 g2 => ?_
                rO := fun b h => ⟨I1.er.rO b h, fun z => n (z ▸ h)⟩
                dom := fun b h => I1.er.dom b h.1
                st := I1.er.st }
        sub := fun b h => ⟨I1.sub b h, fun z => I1.own i l a el e1 (z ▸ h)⟩
        new := fun b h => I1.new b h.1
        ext := I1.ext
        own := fun j m b f1 f2 => ?_
        anc := hA _ _ _ _ I1.anc ⟨fun b h => .inl h.1, Stp.refl, fun _ o h => ⟨o, h⟩⟩ }⟩
      · rcases set_get e with ⟨rfl, e, _⟩ | ⟨_, e⟩
        · cases e
          exact ⟨.ref a, e1, a, vs, rfl, ⟨fun z => z.2 rfl, .of e2⟩, rr.less hsub⟩
        · obtain ⟨v, f1, f2⟩ := I1.er.sl j w e
          exact ⟨v, f1, f2.less hsub⟩
      · rcases set_get e with ⟨_, e, _⟩ | ⟨hn, e⟩
        · cases e
        · obtain ⟨b, us, f1, f2, f3, f4, f5⟩ := I1.er.ow j m e
          exact ⟨b, us, f1, ⟨f2, fun z => hn (I1.er.dis i j l m a el e e1 (z ▸ f1))⟩, f3, f4, f5.less hsub⟩
      · rcases set_get f1 with ⟨_, e, _⟩ | ⟨_, f1⟩
        · cases e
        rcases set_get f2 with ⟨_, e, _⟩ | ⟨_, f2⟩
        · cases e
        exact I1.er.dis j k m m' b f1 f2 g1 g2
      · rcases set_get f1 with ⟨_, e, _⟩ | ⟨_, f1⟩
        · cases e
        exact I1.own j m b f1 f2
    · exact ⟨O1, h1, I1⟩
/-- a new list comes to be owned -/
theorem SI.setOwn (hA : Stable Y A) {p : Addr} {l : List W} {vs : List V} (I : SI Y O0 H0 A O σ ρ s H) {H1 : Hp} {s1 : S} (x : Ext Y H H1) (st : Y.rel s1 H1) (np : H p = none) (e : H1 p = some (.lst vs)) (r : Reps Y (fun b => O b ∨ b = p) H1 l vs) (i : Nat) :
    SI Y O0 H0 A (fun b => O b ∨ b = p) (σ.set i (some (.ref p))) (ρ.set i (.own l)) s1 H1 := by
  have hO : ∀ b, (O b ∨ b = p) → O b ∨ H b = none := fun b h => h.elim .inl fun z => .inr (z ▸ np)
  have hR : ∀ b, Y.R b → O b ∨ b = p := fun b h => .inl (I.er.rO b h)
  have hRp : ¬ Y.R p := fun z => by obtain ⟨u, e⟩ := I.er.dom p (I.er.rO p z); rw [np] at e; cases e
  have hOp : ¬ O p := fun z => by obtain ⟨u, e⟩ := I.er.dom p z; rw [np] at e; cases e
  refine {
    er := { len := by rw [List.length_set, List.length_set]; exact I.er.len
            sl := fun j w e => ?_
            ow := fun j m e => ?_
            dis := fun j k m m' b f1 f2 g1 g2 => ?_
            rO := hR
            dom := fun b h => ?_
            st := st }
    sub := fun b h => .inl (I.sub b h)
    new := fun b h => h.elim (I.new b) fun z => .inr (z ▸ I.ext.none_of np)
    ext := I.ext.trans x
    own := fun j m b f1 f2 => ?_
    anc := hA _ _ _ _ I.anc (Evo.of_ext I.er.rO x hO) }
  · rcases set_get e with ⟨_, e, _⟩ | ⟨hn, e⟩
    · cases e
    · obtain ⟨v, f1, f2⟩ := I.er.sl j w e
      exact ⟨v, by rw [List.getElem?_set_ne hn]; exact f1, (rep_O hO f2).ext x hR⟩
  · rcases set_get e with ⟨rfl, e, hl⟩ | ⟨hn, e⟩
    · cases e
      exact ⟨p, vs, by rw [List.getElem?_set_self (by rw [← I.er.len]; exact hl)], .inr rfl, hRp, ‹H1 p = _›, r⟩
    · obtain ⟨b, us, f1, f2, f3, f4, f5⟩ := I.er.ow j m e
      exact ⟨b, us, by rw [List.getElem?_set_ne hn]; exact f1, .inl f2, f3, x.lst f3 f4, (reps_O hO f5).ext x hR⟩
  · have key : ∀ (j : Nat) m, ρ[j]? = some (.own m) → σ[j]? = some (some (.ref p)) → False := fun j m f1 f2 => by
      obtain ⟨b, us, g1, g2, _⟩ := I.er.ow j m f1
      rw [f2] at g1
      cases g1
      exact hOp g2
    rcases set_get f1 with ⟨rfl, _, hl⟩ | ⟨n1, f1⟩
    · rcases set_get f2 with ⟨rfl, _, _⟩ | ⟨n2, f2⟩
      · rfl
      · rw [List.getElem?_set_self (by rw [← I.er.len]; exact hl)] at g1
        cases g1
        rw [List.getElem?_set_ne n2] at g2
        exact (key k m' f2 g2).elim
    · rcases set_get f2 with ⟨rfl, _, hl⟩ | ⟨n2, f2⟩
      · rw [List.getElem?_set_self (by rw [← I.er.len]; exact hl)] at g2
        cases g2
        rw [List.getElem?_set_ne n1] at g1
        exact (key j m f1 g1).elim
      · rw [List.getElem?_set_ne n1] at g1
        rw [List.getElem?_set_ne n2] at g2
        exact I.er.dis j k m m' b f1 f2 g1 g2
  · rcases h with h | h
    · obtain ⟨o, e⟩ := I.er.dom b h; exact x.some_of e
    · subst h; exact ⟨_, e⟩
  · rcases set_get f1 with ⟨rfl, _, hl⟩ | ⟨n1, f1⟩
    · rw [List.getElem?_set_self (by rw [← I.er.len]; exact hl)] at f2
      cases f2
      intro z
      obtain ⟨u, e⟩ := I.er.dom p (I.sub p z)
      rw [np] at e; cases e
    · rw [List.getElem?_set_ne n1] at f2
      exact I.own j m b f1 f2
/-- an owned list is written -/
theorem SI.write (hA : Stable Y A) (I : SI Y O0 H0 A O σ ρ s H) {i : Nat} {l l' : List W} {a : Addr} {vs ys : List V} (el : ρ[i]? = some (.own l)) (ea : σ[i]? = some (some (.ref a))) (eH : H a = some (.lst vs)) (o : O a) (n : ¬ Y.R a) (r : Reps Y O H l' ys) :
    SI Y O0 H0 A O σ (ρ.set i (.own l')) s (upd H a (.lst ys)) where
  er := { len := (List.length_set ..).trans I.er.len
          sl := fun j w e => by
            rcases set_get e with ⟨_, e, _⟩ | ⟨_, e⟩
            · cases e
            · obtain ⟨v, f1, f2⟩ := I.er.sl j w e
              exact ⟨v, f1, f2.upd o eH⟩
          ow := fun j m e => by
            rcases set_get e with ⟨rfl, e, _⟩ | ⟨hn, e⟩
            · cases e
              exact ⟨a, ys, ea, o, n, upd_same, r.upd o eH⟩
            · obtain ⟨b, us, f1, f2, f3, f4, f5⟩ := I.er.ow j m e
              have hb : b ≠ a := fun z => hn (I.er.dis i j l m a el e ea (z ▸ f1))
              exact ⟨b, us, f1, f2, f3, by rw [upd_ne hb]; exact f4, f5.upd o eH⟩
          dis := fun j k m m' b f1 f2 g1 g2 => by
            have h1 : ∃ m, ρ[j]? = some (.own m) := by
              rcases set_get f1 with ⟨rfl, e, _⟩ | ⟨_, f1⟩
              · exact ⟨_, el⟩
              · exact ⟨_, f1⟩
            have h2 : ∃ m, ρ[k]? = some (.own m) := by
              rcases set_get f2 with ⟨rfl, e, _⟩ | ⟨_, f2⟩
              · exact ⟨_, el⟩
              · exact ⟨_, f2⟩
            obtain ⟨_, h1⟩ := h1
            obtain ⟨_, h2⟩ := h2
            exact I.er.dis j k _ _ b h1 h2 g1 g2
          rO := I.er.rO
          dom := fun b h => by
            by_cases z : b = a
            · subst z; exact ⟨_, upd_same⟩
            · rw [upd_ne z]; exact I.er.dom b h
          st := Y.frame s H _ I.er.st fun b hb => upd_ne fun z => n (z ▸ hb) }
  sub := I.sub
  new := I.new
  ext := fun b u e => by
    have hb : b ≠ a := fun z => by
      rcases I.new a o with h | h
      · exact I.own i l a el ea h
      · rw [z, h] at e; cases e
    rw [upd_ne hb]
    exact I.ext b u e
  own := fun j m b f1 f2 => by
    rcases set_get f1 with ⟨rfl, e, _⟩ | ⟨_, f1⟩
    · exact I.own i l b el f2
    · exact I.own j m b f1 f2
  anc := hA _ _ _ _ I.anc ⟨fun _ h => .inl h, Stp.upd o eH, fun b u e => by
    by_cases z : b = a
    · subst z; exact ⟨_, upd_same⟩
    · rw [upd_ne z]; exact ⟨u, e⟩⟩
/-- behind an expression -/
theorem SI.after (hA : Stable Y A) {esc : List Nat} {O' : Addr → Prop} (I : SI Y O0 H0 A O σ ρ s H) (If : SI Y O0 H0 A O' σ (MP.freeze esc ρ) s H) (x : Ext Y H H') (st : Y.rel s' H') (r : Rep Y O' H' w v) :
    ∃ O1, SI Y O0 H0 A O1 σ (MP.after esc w ρ) s' H' ∧ Rep Y O1 H' w v ∧ (flat w = false → O1 = O') := by
  unfold MP.after
  by_cases hf : flat w = true
  · rw [if_pos hf]
    exact ⟨O, I.step hA x st, Rep.flat w v hf r, fun z => by rw [hf] at z; cases z⟩
  · rw [if_neg hf]
    exact ⟨O', If.step hA x st, r, fun _ => rfl⟩
end

section
variable {S : Type} (mk : Addr → Addr → Sys S) (F : Str → List W → S → Option (W × S)) (G : Str → Option W)
/-- what a statement's end wants -/
def EndOk (Y : Sys S) (O0 : Addr → Prop) (H0 : Hp) (A : Anch) (D : Ends) : R3 S → Prop
  | (.nx, ρ, s) => ∀ σ H, (∃ O, SI Y O0 H0 A O σ ρ s H) → D.nx σ H
  | (.brk, ρ, s) => ∀ σ H, (∃ O, SI Y O0 H0 A O σ ρ s H) → D.bk σ H
  | (.cnt, ρ, s) => ∀ σ H, (∃ O, SI Y O0 H0 A O σ ρ s H) → D.ct σ H
  | (.ret w, _, s) => ∀ v H, Ext Y H0 H → Y.rel s H → Rep Y O0 H w v → D.rt v H
def tS (f : List Sl → S → Option (R3 S)) : TS := fun D σ H => ∃ (a c : Addr) (O0 : Addr → Prop) (H0 : Hp) (A : Anch) (O : Addr → Prop) (ρ : List Sl) (s : S) (r : R3 S), Stable (mk a c) A ∧ SI (mk a c) O0 H0 A O σ ρ s H ∧
  f ρ s = some r ∧ EndOk (mk a c) O0 H0 A D r
theorem ps_mono' {X : Cx} {e : Stmt} {t t' : TS} (h : PS X e t) (m : ∀ D σ H, t' D σ H → t D σ H) : PS X e t' := ⟨fun p s σ H D I q => h.run p s σ H D I (m D σ H q)⟩
theorem pss_mono' {X : Cx} {e : List Stmt} {t t' : TS} (h : PSs X e t) (m : ∀ D σ H, t' D σ H → t D σ H) : PSs X e t' := ⟨fun p s σ H D I q => h.run p s σ H D I (m D σ H q)⟩

/-! ### a, b = x, y -/
def isStar : Expr → Bool
  | .Starred .. => true
  | _ => false
def nameIf (kind : Str → Option NameKind) (line : Nat) : Expr → Option Str
  | .Name id pos => if kind id == some .local && pos.line == line then some id else none
  | _ => none
def swapP (kind : Str → Option NameKind) (ts vs : List Expr) : Option (Option (List Str)) :=
  if !(ts.length == 2 || ts.length == 3) || vs.length != ts.length then some none
  else if vs.any isStar then some none
  else
    let names := ts.filterMap (nameIf kind ((ts.head?.map (·.pos.line)).getD 0))
    if names.length != ts.length || names.eraseDups.length != names.length then some none
    else if vs.all (foldedForSure 8) then some none
    else if vs.all (constantsAlone 8) then none
    else some (some names)
theorem swapped_of {env : Env} {ts vs : List Expr} {k k2 : Nat} {p p2 : Pos} {r : Option (List Str)} (hk : env.scope.kind = .function) (h : swapP env.kindOf ts vs = some r) : swappedStores [.Tuple ts k p] (.Tuple vs k2 p2) env = pure r := by
  have hb : (env.blockKind != .function) = false := by
    unfold Env.blockKind; rw [hk]; rfl
  unfold swapP at h
  unfold swappedStores
  simp only [hb, Bool.or_false, bind_pure_comp]
  split at h
  · rename_i c
    cases h
    rw [if_pos c]
  · rename_i c
    rw [if_neg c]
    split at h
    · rename_i c2
      cases h
      exact if_pos (c2 : vs.any isStar = true)
    · rename_i c2
      refine (if_neg (c2 : ¬ vs.any isStar = true)).trans ?_
      dsimp only at h
      split at h
      · rename_i c3
        cases h
        exact if_pos c3
      · rename_i c3
        refine (if_neg c3).trans ?_
        split at h
        · rename_i c4
          cases h
          exact if_pos c4
        · rename_i c4
          refine (if_neg c4).trans ?_
          split at h
          · cases h
          · rename_i c5
            cases h
            exact if_neg c5
end
end MP

/-! MP10: every statement of the small syntax is sound. -/
namespace MP
open PySem PySem.Spec PyProof.Rows L2

def isLc : IE → Bool
  | .lc _ _ _ _ _ _ _ => true
  | .lc2 _ _ _ _ _ _ _ _ _ _ _ => true
  | _ => false
def celB (sc : Scope) (x : Str) : Bool := match sc.names.lookup x with
  | some .cell => true
  | _ => false
/-- the slots' names as targets -/
def nmE (t : Nat × Str × Pos) : Expr := .Name t.2.1 t.2.2
def varB (N : List Str) (sc : Scope) (i : Nat) (x : Str) : Bool := decide (N[i]? = some x) && visB sc x && ndbg x && !(x == ("__classdict__" : Str))
mutual
def wfS (T : Tab) (N : List Str) (sc : Scope) : IS → Bool
  | .asg tg e _ own _ => wfE T N sc e && (match tg with
    | .name i x _ => decide (N[i]? = some x) && locB sc x && (!own || fresh e) && (!isLc e || celB sc x)
    | .tup ts _ _ => wfTs N sc ts && (match e with
      | .tup es _ _ => decide (swapP (fun x => sc.names.lookup x) ts.ast es.ast = some none)
      | _ => true))
  | .par xs _ _ es _ _ _ _ => wfEs T N sc es && (xs.all fun t => decide (N[t.1]? = some t.2.1) && lclB sc t.2.1) && decide ((xs.map (·.1)).Nodup) && decide (lenEs es = xs.length) && (decide (xs.length = 2) || decide (xs.length = 3)) &&
      decide (swapP (fun x => sc.names.lookup x) (xs.map nmE) es.ast = some (some (xs.map (·.2.1))))
  | .setlc i x px e _ own _ => wfE T N sc e && decide (N[i]? = some x) && lclB sc x && (!own || fresh e) && (match e with
    | .lc _ _ _ _ scope _ p => decide (px.line = p.line) && !(scope.names.any fun (n, k) => n == x && (k == .local || k == .cell))
    | _ => false)
  | .aug i x _ _ e _ _ => wfE T N sc e && decide (N[i]? = some x) && locB sc x
  | .setix i x _ ix _ e _ _ => wfE T N sc e && wfE T N sc ix && varB N sc i x && !isLc e
  | .set2 i x p1 i1 t1 p2 i2 t2 _ _ e _ _ => wfE T N sc e && wfE T N sc i1 && wfE T N sc i2 && varB N sc i x && (match e with
    | .tup es _ _ => decide (swapP (fun x => sc.names.lookup x) [.Subscript (.Name x p1) i1.ast t1, .Subscript (.Name x p2) i2.ast t2] es.ast = some none)
    | _ => true)
  | .app i x _ pa pc e _ _ => wfE T N sc e && varB N sc i x && decide (pa.endLine = pc.line)
  | .ins i x _ pa pc k e _ _ => wfE T N sc k && wfE T N sc e && varB N sc i x && decide (pa.endLine = pc.line)
  | .ret e _ _ => wfE T N sc e
  | .retn _ => true
  | .ite c a b _ _ => wfE T N sc c && wfSs T N sc a && wfSs T N sc b
  | .whl c b _ _ _ => wfE T N sc c && wfSs T N sc b
  | .for_ tg it b _ _ _ => wfI T N sc tg it && wfT N sc tg && wfSs T N sc b
  | .brk _ => true
  | .cnt _ => true
  | .pass _ => true
def wfSs (T : Tab) (N : List Str) (sc : Scope) : ISs → Bool
  | .nil => true
  | .cons s ss => wfS T N sc s && wfSs T N sc ss
end
structure StOk (X : Cx) (sc : Scope) : Prop where
  scEq : X.env.scope = sc
  kind : X.env.scope.kind = .function
  fn : ∀ x, X.fn x = true
  po : PassesOwn (model X.prog X.w) X.A X.env X.xe
theorem StOk.sc {X : Cx} {sc : Scope} (h : StOk X sc) : ScOk X sc := h.scEq ▸ ScOk.self h.fn
theorem swapsWith_no {e : IE} {x : Str} {px : Pos} {l : Nat} {X : Cx} {sc : Scope} (so : StOk X sc) (h : (!isLc e || celB sc x) = true) : swapsWith e.ast (some (.Name x px)) l X.env = pure false := by
  have hc : celB sc x = true → (X.env.kindOf x == some .local) = false := fun h => by
    unfold celB at h
    unfold Env.kindOf
    rw [so.scEq]
    split at h <;> rename_i e
    · rw [e]; rfl
    · cases h
  cases e with
  | lc elt tg it ifs scope own p =>
    have := hc (by simpa [isLc] using h)
    show (pure (X.env.blockKind == .function && X.env.kindOf x == some .local && px.line == p.line && !(scope.names.any fun (n, k) => n == x && (k == .local || k == .cell))) : Sem Bool) = pure false
    rw [this]; simp
  | lc2 elt tg it ifs tg1 it1 ifs1 scope own vs p =>
    have := hc (by simpa [isLc] using h)
    show (pure (X.env.blockKind == .function && X.env.kindOf x == some .local && px.line == p.line && !(scope.names.any fun (n, k) => n == x && (k == .local || k == .cell))) : Sem Bool) = pure false
    rw [this]; simp
  | _ => rfl
theorem swapsSole_tup {e : IE} {ts : ITs} {k : Nat} {p : Pos} {l : Nat} {env : Env} : swapsWithSole [IT.ast (.tup ts k p)] e.ast l env = pure false := by
  cases e <;> rfl
theorem swappedNo {e : IE} {tg : Expr} {env : Env} (h : ∀ es k p, e ≠ .tup es k p) : swappedStores [tg] e.ast env = pure none := by
  cases e with
  | tup es k p => exact absurd rfl (h es k p)
  | _ => cases tg <;> rfl
theorem assignEach1 (tg : IT) (env : Env) : (assignEach [tg.ast] env).map (·.2) = [assign tg.ast env] := by
  cases tg <;> rfl

section
variable {X : Cx}
/-- an augmented operator on ints -/
def rAug (op : Operator) : TIp := fun x y H Q => ∃ i j w, x = .int i ∧ y = .int j ∧ binW op (.int i) (.int j) = some w ∧ ∀ v, (∃ k, w = .int k ∧ v = .int k) → Q v H
theorem op_aug {op : Operator} : PIp X op (rAug op) := by
  intro pins s σ H x y v u Q I rx ry h
  obtain ⟨i, j, w, rfl, rfl, e, q⟩ := h
  obtain ⟨t, rfl⟩ := rx
  obtain ⟨t', rfl⟩ := ry
  unfold binW at e
  split at e
  · rename_i h1 h2; cases h1; cases h2; cases e
    exact iop_add pins s σ H (.int _) (.int _) _ _ Q I ⟨t, rfl⟩ ⟨t', rfl⟩ ⟨_, _, rfl, rfl, q _ ⟨_, rfl, rfl⟩⟩
  · rename_i h1 h2; cases h1; cases h2; cases e
    exact iop_sub pins s σ H (.int _) (.int _) _ _ Q I ⟨t, rfl⟩ ⟨t', rfl⟩ ⟨_, _, rfl, rfl, q _ ⟨_, rfl, rfl⟩⟩
  · rename_i h1 h2; cases h1; cases h2
    split at e
    · rename_i hm
      cases e
      exact PyProof.Rows.imul_int ⟨.int _, H, I.tok _, ⟨_, rfl⟩, q _ ⟨_, rfl, rfl⟩⟩ (CMulW.ok hm)
    · cases e
  · rename_i h1 h2; cases h1; cases h2
    split at e
    · rename_i hm
      cases e
      exact PyProof.Rows.ifloordiv_int hm.1 ⟨.int _, H, I.tok _, ⟨_, rfl⟩, q _ ⟨_, rfl, rfl⟩⟩ (.inl hm.2)
    · cases e
  · rename_i h1 h2; cases h1; cases h2
    split at e
    · rename_i hm
      cases e
      exact PyProof.Rows.imod_int hm ⟨.int _, H, I.tok _, ⟨_, rfl⟩, q _ ⟨_, rfl, rfl⟩⟩
    · cases e
  all_goals first | (rename_i h1 h2; cases h1) | cases e
end

section
variable {S : Type} {mk : Addr → Addr → Sys S} {F : Str → List W → S → Option (W × S)} {G : Str → Option W}
/-- an expression within a statement -/
theorem expr_run {a c : Addr} {O0 : Addr → Prop} {H0 : Hp} {A : Anch} {O : Addr → Prop} {σ : L2.St} {ρ : List Sl} {s s1 : S} {H : Hp} {e : IE} {w : W} {esc : List Nat} {Q : VK} (hA : Stable (mk a c) A) (I : SI (mk a c) O0 H0 A O σ ρ s H)
    (ev : evE F G e (freeze esc ρ) s = some (w, s1))
    (q : ∀ v H1 O1, SI (mk a c) O0 H0 A O1 σ (after esc w ρ) s1 H1 → Rep (mk a c) O1 H1 w v → Ext (mk a c) H H1 → (fresh e = true → ∀ l, w = .lst l → ∀ i, ∃ O2, SI (mk a c) O0 H0 A O2 (σ.set i (some v)) ((after esc w ρ).set i (.own l)) s1 H1) → Q v H1) :
    tE mk F G e σ H Q := by
  obtain ⟨O', hs, If⟩ := I.freeze hA esc
  refine ⟨a, c, O', freeze esc ρ, s, w, s1, If.er, ev, fun v H1 x st r fr => ?_⟩
  obtain ⟨O1, I1, r1, he⟩ := SI.after hA I If x st r
  refine q v H1 O1 I1 r1 x fun hf l el i => ?_
  obtain ⟨p, vs, rfl, np, eH, rr⟩ := fr hf l el
  have hfl : flat w = false := by rw [el]; rfl
  refine ⟨fun b => O' b ∨ b = p, ?_⟩
  have := If.setOwn hA x st np eH rr i
  unfold after
  rw [hfl]
  exact this
/-- a test within a statement -/
theorem test_run {a c : Addr} {O0 : Addr → Prop} {H0 : Hp} {A : Anch} {O : Addr → Prop} {σ : L2.St} {ρ : List Sl} {s s1 : S} {H : Hp} {e : IE} {w : W} {esc : List Nat} {r : Bool} {Q : Bool → Hp → Prop} (hA : Stable (mk a c) A) (I : SI (mk a c) O0 H0 A O σ ρ s H)
    (ev : evE F G e (freeze esc ρ) s = some (w, s1)) (tr : truW w = some r) (q : ∀ H1, SI (mk a c) O0 H0 A O σ ρ s1 H1 → Q r H1) : tT mk F G e σ H Q := by
  obtain ⟨O', hs, If⟩ := I.freeze hA esc
  exact ⟨a, c, O', freeze esc ρ, s, w, s1, r, If.er, ev, tr, fun H1 x st => q H1 (I.step hA x st)⟩
/-- a store of what an expression gave -/
theorem stor_ok {a c : Addr} {O0 : Addr → Prop} {H0 : Hp} {A : Anch} {O1 : Addr → Prop} {σ : L2.St} {ρ : List Sl} {s1 : S} {H1 : Hp} {w : W} {v : V} {own : Bool} {fr : Bool} (i : Nat) (I : SI (mk a c) O0 H0 A O1 σ ρ s1 H1) (r : Rep (mk a c) O1 H1 w v) (hw : (!own || fr) = true)
    (h : fr = true → ∀ l, w = .lst l → ∀ i, ∃ O2, SI (mk a c) O0 H0 A O2 (σ.set i (some v)) (ρ.set i (.own l)) s1 H1) : ∃ O2, SI (mk a c) O0 H0 A O2 (σ.set i (some v)) (ρ.set i (stor own w)) s1 H1 := by
  cases own with
  | false => exact ⟨O1, I.setVal i r⟩
  | true =>
    cases w with
    | lst l => exact h (by simpa using hw) l rfl i
    | _ => exact ⟨O1, I.setVal i r⟩
end
end MP

/-! MP11: every statement of the small syntax is sound. -/
namespace MP
open PySem PySem.Spec PyProof.Rows L2
section
variable {S : Type} {mk : Addr → Addr → Sys S} {F : Str → List W → S → Option (W × S)} {G : Str → Option W}
theorem parSet_cons {t : Nat × Str × Pos} {ts : List (Nat × Str × Pos)} {w : W} {l : List W} {ρ : List Sl} : parSet (t :: ts) (w :: l) ρ = parSet ts l (ρ.set t.1 (.val w)) := rfl
theorem evEs_len : ∀ {es : IEs} {ρ : List Sl} {s : S} {ws : List W} {s' : S}, evEs F G es ρ s = some (ws, s') → ws.length = lenEs es
  | .nil, _, _, _, _, h => by rw [evEs] at h; cases h; rfl
  | .cons e es, _, _, _, _, h => by
    rw [evEs, Option.bind_eq_some_iff] at h
    obtain ⟨⟨x, s1⟩, _, h⟩ := h
    rw [Option.map_eq_some_iff] at h
    obtain ⟨⟨r, s2⟩, h, ez⟩ := h
    cases ez
    rw [List.length_cons, evEs_len h]; rfl
theorem lenEs_ast : ∀ es : IEs, es.ast.length = lenEs es
  | .nil => rfl
  | .cons e es => by show es.ast.length + 1 = _; rw [lenEs_ast es]; rfl
/-- several expressions within a statement -/
theorem exprs_run {a c : Addr} {O0 : Addr → Prop} {H0 : Hp} {A : Anch} {O : Addr → Prop} {σ : L2.St} {ρ : List Sl} {s s1 : S} {H : Hp} {es : IEs} {ws : List W} {esc : List Nat} {Q : List V → Hp → Prop} (hA : Stable (mk a c) A) (I : SI (mk a c) O0 H0 A O σ ρ s H)
    (ev : evEs F G es (freeze esc ρ) s = some (ws, s1))
    (q : ∀ vs H1 O1, SI (mk a c) O0 H0 A O1 σ (if flats ws then ρ else freeze esc ρ) s1 H1 → Reps (mk a c) O1 H1 ws vs → Q vs H1) :
    tEs mk F G es σ H Q := by
  obtain ⟨O', hs, If⟩ := I.freeze hA esc
  refine ⟨a, c, O', freeze esc ρ, s, ws, s1, If.er, ev, fun vs H1 x st r => ?_⟩
  by_cases hf : flats ws = true
  · exact q vs H1 O (by rw [if_pos hf]; exact I.step hA x st) (Reps.flat ws vs hf r)
  · exact q vs H1 O' (by rw [if_neg hf]; exact If.step hA x st) r
theorem wish_env {X : Cx} {sc : Scope} (so : StOk X sc) : X.env.kindOf = fun x => sc.names.lookup x := by
  funext x
  unfold Env.kindOf
  rw [so.scEq]
mutual
theorem asgT_keep : ∀ (tg : IT) (w : W) (ρ ρ' : List Sl), asgT tg w ρ = some ρ' → ∀ (j : Nat) l, ρ'[j]? = some (.own l) → ρ[j]? = some (.own l) ∧ j ∉ slotsT tg
  | .name i x p, w, ρ, ρ', e, j, l, h => by
    rw [asgT] at e
    cases e
    rcases set_get h with ⟨_, e, _⟩ | ⟨n, e⟩
    · cases e
    · exact ⟨e, by rw [slotsT]; simp [Ne.symm n]⟩
  | .tup ts k p, w, ρ, ρ', e, j, l, h => by
    unfold asgT at e
    split at e
    · rw [slotsT]; exact asgTs_keep ts _ ρ ρ' e j l h
    · rw [slotsT]; exact asgTs_keep ts _ ρ ρ' e j l h
    · cases e
theorem asgTs_keep : ∀ (ts : ITs) (l : List W) (ρ ρ' : List Sl), asgT.asgTs ts l ρ = some ρ' → ∀ (j : Nat) m, ρ'[j]? = some (.own m) → ρ[j]? = some (.own m) ∧ j ∉ slotsTs ts
  | .nil, [], ρ, ρ', e, j, m, h => by rw [asgT.asgTs] at e; cases e; exact ⟨h, by rw [slotsTs]; simp⟩
  | .nil, _ :: _, ρ, ρ', e, j, m, h => by simp [asgT.asgTs] at e
  | .cons _ _, [], ρ, ρ', e, j, m, h => by simp [asgT.asgTs] at e
  | .cons t ts, w :: l, ρ, ρ', e, j, m, h => by
    rw [asgT.asgTs, Option.bind_eq_some_iff] at e
    obtain ⟨ρ1, e1, e2⟩ := e
    obtain ⟨h1, h2⟩ := asgTs_keep ts l ρ1 ρ' e2 j m h
    obtain ⟨h3, h4⟩ := asgT_keep t w ρ ρ1 e1 j m h1
    exact ⟨h3, by rw [slotsTs, List.mem_append]; exact fun z => z.elim h4 h2⟩
end
theorem lenEs_two : ∀ {es : IEs}, lenEs es = 2 → ∃ x y, es = .cons x (.cons y .nil)
  | .cons x (.cons y .nil), _ => ⟨x, y, rfl⟩
  | .nil, h | .cons _ .nil, h => by simp [lenEs] at h
  | .cons _ (.cons _ (.cons _ _)), h => by simp [lenEs] at h
theorem lenEs_three : ∀ {es : IEs}, lenEs es = 3 → ∃ x y z, es = .cons x (.cons y (.cons z .nil))
  | .cons x (.cons y (.cons z .nil)), _ => ⟨x, y, z, rfl⟩
  | .nil, h | .cons _ .nil, h | .cons _ (.cons _ .nil), h => by simp [lenEs] at h
  | .cons _ (.cons _ (.cons _ (.cons _ _))), h => by simp [lenEs] at h
theorem list_two {α : Type} : ∀ {l : List α}, l.length = 2 → ∃ x y, l = [x, y]
  | [x, y], _ => ⟨x, y, rfl⟩
  | [], h | [_], h => by simp at h
  | _ :: _ :: _ :: _, h => by simp at h
theorem list_three {α : Type} : ∀ {l : List α}, l.length = 3 → ∃ x y z, l = [x, y, z]
  | [x, y, z], _ => ⟨x, y, z, rfl⟩
  | [], h | [_], h | [_, _], h => by simp at h
  | _ :: _ :: _ :: _ :: _, h => by simp at h
theorem asgT_own {Y : Sys S} {O0 : Addr → Prop} {H0 : Hp} {A : Anch} {O : Addr → Prop} {σ σ' : L2.St} {ρ ρ' : List Sl} {s : S} {H : Hp} {tg : IT} {w : W} (e : asgT tg w ρ = some ρ') (I : SI Y O0 H0 A O σ ρ s H) (_ : ERel Y O σ' ρ' s H) (_ : σ'.length = σ.length)
    (hd : ∀ j, j ∉ slotsT tg → σ'[j]? = σ[j]?) : ∀ (i : Nat) l a, ρ'[i]? = some (.own l) → σ'[i]? = some (some (.ref a)) → ¬ O0 a := fun i l a e1 e2 => by
  obtain ⟨h1, h2⟩ := asgT_keep tg w ρ ρ' e i l e1
  exact I.own i l a h1 (by rw [← hd i h2]; exact e2)
theorem freeze_own {ρ : List Sl} {i : Nat} {l : List W} : ∀ {esc : List Nat}, (freeze esc ρ)[i]? = some (.own l) → ρ[i]? = some (.own l)
  | [], h => h
  | j :: r, h => by
    rw [freeze] at h
    split at h
    · rcases set_get h with ⟨_, e, _⟩ | ⟨_, e⟩
      · cases e
      · exact freeze_own e
    · exact freeze_own h
mutual
theorem sndS {T : Tab} : ∀ (st : IS) (X : Cx) (sc : Scope), CxOk mk F G T X → StOk X sc → wfS T X.N sc st = true → PS X st.ast (tS mk (evS F G st))
  | .asg (.name i x px) e esc own p, X, sc, C, so, wf => by
    unfold wfS at wf
    simp only [Bool.and_eq_true] at wf
    obtain ⟨h0, ⟨⟨⟨h1, h2⟩, h3⟩, h4⟩⟩ := wf
    have he := (sndE e X sc C so.sc h0).pe
    obtain ⟨hl, hf⟩ := so.sc.loc x h2
    refine ps_mono' (ps_set (i := i) C.nd (of_decide_eq_true h1) hl he (swapsWith_no so h4) hf) ?_
    intro D σ H ⟨a, c, O0, H0, A, O, ρ, s, r, hA, I, ev, hq⟩
    rw [evS, Option.bind_eq_some_iff] at ev
    obtain ⟨⟨w, s1⟩, e1, ev⟩ := ev
    dsimp only at ev
    cases ev
    refine expr_run hA I e1 fun v H1 O1 I1 r1 x1 fr => ?_
    exact hq _ _ (stor_ok i I1 r1 h3 fr)
  | .asg (.tup ts k pt) e esc own p, X, sc, C, so, wf => by
    unfold wfS at wf
    simp only [Bool.and_eq_true] at wf
    obtain ⟨h0, h1, h2⟩ := wf
    have he := (sndE e X sc C so.sc h0).pe
    have hg := sndT mk C.hK C.calm C.nd so.sc (.tup ts k pt) (by unfold wfT; exact h1)
    have hw : swappedStores [(IT.tup ts k pt).ast] e.ast X.env = pure none := by
      by_cases z : ∃ es k' p', e = .tup es k' p'
      · obtain ⟨es, k', p', rfl⟩ := z
        exact swapped_of so.kind (by rw [wish_env so]; exact of_decide_eq_true h2)
      · exact swappedNo fun es k' p' q => z ⟨es, k', p', q⟩
    refine ps_mono' (ps_asg he hg swapsSole_tup hw (assignEach1 (.tup ts k pt) X.env)) ?_
    intro D σ H ⟨a, c, O0, H0, A, O, ρ, s, r, hA, I, ev, hq⟩
    rw [evS, Option.bind_eq_some_iff] at ev
    obtain ⟨⟨w, s1⟩, e1, ev⟩ := ev
    dsimp only at ev
    rw [Option.map_eq_some_iff] at ev
    obtain ⟨ρ', e2, ez⟩ := ev
    subst ez
    refine expr_run hA I e1 fun v H1 O1 I1 r1 x1 fr => ?_
    refine ⟨a, c, O1, after esc w ρ, s1, w, ρ', I1.er, r1, e2, fun σ' E' hl hd => hq _ _ ⟨O1, ?_⟩⟩
    exact { er := E', sub := I1.sub, new := I1.new, ext := I1.ext, anc := I1.anc, own := asgT_own e2 I1 E' hl hd }
  | .par xs kt pt es k2 pt2 esc p, X, sc, C, so, wf => by
    unfold wfS at wf
    simp only [Bool.and_eq_true, Bool.or_eq_true, decide_eq_true_eq] at wf
    obtain ⟨⟨⟨⟨⟨h0, h1⟩, h2⟩, h3⟩, h4⟩, h5⟩ := wf
    obtain ⟨ha, _⟩ := sndEs es X sc C so.sc h0
    have hw : swappedStores [.Tuple (xs.map nmE) kt pt] (.Tuple es.ast k2 pt2) X.env = pure (some (xs.map (·.2.1))) := swapped_of so.kind (by rw [wish_env so]; exact h5)
    have hn : ∀ t ∈ xs, X.N[t.1]? = some t.2.1 ∧ X.env.scope.names.lookup t.2.1 = some .local := fun t ht => by
      have := List.all_eq_true.mp h1 t ht
      rw [Bool.and_eq_true] at this
      exact ⟨of_decide_eq_true this.1, so.sc.lcl _ this.2⟩
    have key : ∀ D σ H, tS mk (evS F G (.par xs kt pt es k2 pt2 esc p)) D σ H → tEs mk F G es σ H fun vs H1 => ∀ σ', (∃ (a c : Addr) (O0 : Addr → Prop) (H0 : Hp) (A : Anch) (O1 : Addr → Prop) (ρ1 : List Sl) (ws : List W) (ρ' : List Sl) (s1 : S),
        SI (mk a c) O0 H0 A O1 σ ρ1 s1 H1 ∧ Reps (mk a c) O1 H1 ws vs ∧ parSet xs ws ρ1 = some ρ' ∧ ((∃ O2, SI (mk a c) O0 H0 A O2 σ' ρ' s1 H1) → D.nx σ' H1)) := by
      intro D σ H ⟨a, c, O0, H0, A, O, ρ, s, r, hA, I, ev, hq⟩
      rw [evS, Option.bind_eq_some_iff] at ev
      obtain ⟨⟨ws, s1⟩, e1, ev⟩ := ev
      rw [Option.map_eq_some_iff] at ev
      obtain ⟨ρ', e2, ez⟩ := ev
      subst ez
      exact exprs_run hA I e1 fun vs H1 O1 I1 r1 σ' => ⟨a, c, O0, H0, A, O1, _, ws, ρ', s1, I1, r1, e2, fun h => hq σ' H1 h⟩
    rcases h4 with h4 | h4
    · obtain ⟨t1, t2, rfl⟩ := list_two h4
      obtain ⟨x, y, rfl⟩ := lenEs_two (h3.trans h4)
      have nd : t1.1 ≠ t2.1 := by
        intro z
        simp [z] at h2
      refine ps_mono' (ps_par (i := t1.1) (j := t2.1) C.calm C.nd (hn t1 (by simp)).1 (hn t2 (by simp)).1 nd (hn t1 (by simp)).2 (hn t2 (by simp)).2 ha hw (by rfl)) ?_
      intro D σ H h
      obtain ⟨a, c, O, ρ, s, ws, s', E, ev, q⟩ := key D σ H h
      refine ⟨a, c, O, ρ, s, ws, s', E, ev, fun vs H1 x1 st r => ?_⟩
      obtain ⟨v1, v2, rfl⟩ := list_two (r.length.symm.trans (evEs_len ev))
      refine ⟨v1, v2, rfl, ?_⟩
      obtain ⟨a', c', O0, H0, A, O1, ρ1, ws, ρ', s1, I1, r1, e2, q⟩ := q [v1, v2] H1 x1 st r ((σ.set t1.1 (some v1)).set t2.1 (some v2))
      obtain ⟨u1, u2, rfl⟩ := list_two (r1.length)
      obtain ⟨_, _, ez, g1, g2⟩ := r1
      cases ez
      obtain ⟨_, _, ez, g2, g3⟩ := g2
      cases ez
      simp only [parSet, Option.some.injEq] at e2
      subst e2
      exact q ⟨O1, (I1.setVal t1.1 g1).setVal t2.1 g2⟩
    · obtain ⟨t1, t2, t3, rfl⟩ := list_three h4
      obtain ⟨x, y, z, rfl⟩ := lenEs_three (h3.trans h4)
      have nd : t1.1 ≠ t2.1 ∧ t1.1 ≠ t3.1 ∧ t2.1 ≠ t3.1 := by
        simp at h2
        exact ⟨h2.1.1, h2.1.2, h2.2⟩
      refine ps_mono' (ps_par3 (i := t1.1) (j := t2.1) (l := t3.1) C.calm C.nd (hn t1 (by simp)).1 (hn t2 (by simp)).1 (hn t3 (by simp)).1 nd.1 nd.2.1 nd.2.2 (hn t1 (by simp)).2 (hn t2 (by simp)).2 (hn t3 (by simp)).2 ha hw (by rfl)) ?_
      intro D σ H h
      obtain ⟨a, c, O, ρ, s, ws, s', E, ev, q⟩ := key D σ H h
      refine ⟨a, c, O, ρ, s, ws, s', E, ev, fun vs H1 x1 st r => ?_⟩
      obtain ⟨v1, v2, v3, rfl⟩ := list_three (r.length.symm.trans (evEs_len ev))
      refine ⟨v1, v2, v3, rfl, ?_⟩
      obtain ⟨a', c', O0, H0, A, O1, ρ1, ws, ρ', s1, I1, r1, e2, q⟩ := q [v1, v2, v3] H1 x1 st r (((σ.set t1.1 (some v1)).set t2.1 (some v2)).set t3.1 (some v3))
      obtain ⟨u1, u2, u3, rfl⟩ := list_three (r1.length)
      obtain ⟨_, _, ez, g1, g2⟩ := r1
      cases ez
      obtain ⟨_, _, ez, g2, g3⟩ := g2
      cases ez
      obtain ⟨_, _, ez, g3, g4⟩ := g3
      cases ez
      simp only [parSet, Option.some.injEq] at e2
      subst e2
      exact q ⟨O1, ((I1.setVal t1.1 g1).setVal t2.1 g2).setVal t3.1 g3⟩
  | .setlc i x px e esc own p, X, sc, C, so, wf => by
    unfold wfS at wf
    simp only [Bool.and_eq_true] at wf
    obtain ⟨⟨⟨⟨h0, h1⟩, h2⟩, h3⟩, h4⟩ := wf
    match e, h0, h3, h4 with
    | .lc elt tg it ifs scope own' q, h0, h3, h4 =>
      rw [Bool.and_eq_true] at h4
      have hy := so.sc.lcl x h2
      have wf := h0
      unfold wfE at wf
      simp only [Bool.and_eq_true] at wf
      obtain ⟨⟨⟨⟨⟨k1, k2⟩, k3⟩, k4⟩, k5⟩, k6⟩ := wf
      have hi := sndI it true tg X sc C so.sc k2
      have ok := blk_ok so.sc k1
      have hsub : ∀ i ∈ slotsT tg, i ∈ own'.map (·.2) := fun i hi => of_decide_eq_true (List.all_eq_true.mp k4 i hi)
      have hg : ∀ (s : Shared) (H : Hp) (Cc : Addr) (cl : List (Str × Addr)) (fp : List Addr), PG (X.blk s H scope (compEnvC scope cl Cc X.env) fp) tg.ast (tG mk tg) :=
        fun s H Cc cl fp => sndT mk (X := X.blk s H scope (compEnvC scope cl Cc X.env) fp) C.hK C.calm C.nd (scOk_blk X s H scope Cc cl fp) tg k3
      have ht : ∀ (s : Shared) (H : Hp) (Cc : Addr) (cl : List (Str × Addr)) (fp : List Addr), PTs (X.blk s H scope (compEnvC scope cl Cc X.env) fp) ifs.asts (tIf mk F G ifs) :=
        fun s H Cc cl fp => sndIf ifs _ scope (C.blk s H scope _ fp) (scOk_blk X s H scope Cc cl fp) k5
      have he : ∀ (s : Shared) (H : Hp) (Cc : Addr) (cl : List (Str × Addr)) (fp : List Addr), PE (X.blk s H scope (compEnvC scope cl Cc X.env) fp) elt.ast (tE mk F G elt) :=
        fun s H Cc cl fp => (sndE elt _ scope (C.blk s H scope _ fp) (scOk_blk X s H scope Cc cl fp) k6).pe
      refine ps_mono' (ps_setLc (i := i) C.calm C.nd (of_decide_eq_true h1) hy (sw_true so.kind hy (by simpa using of_decide_eq_true h4.1) (by simpa using h4.2)) hi ok hg ht he (folded_ii it X.env)) ?_
      intro D σ H ⟨a, c, O0, H0, A, O, ρ, s, r, hA, I, ev, hq⟩
      rw [evS, Option.bind_eq_some_iff] at ev
      obtain ⟨⟨w, s1⟩, e1, ev⟩ := ev
      cases ev
      refine lc_ok (p := q) C.hK C.calm C.nd hi ok hsub hg ht he σ H _ (expr_run hA I e1 fun v H1 O1 I1 r1 x1 fr => ?_)
      exact hq _ _ (stor_ok i I1 r1 h3 fr)
  | .aug i x px op e esc p, X, sc, C, so, wf => by
    unfold wfS at wf
    simp only [Bool.and_eq_true] at wf
    obtain ⟨⟨h0, h1⟩, h2⟩ := wf
    have he := (sndE e X sc C so.sc h0).pe
    obtain ⟨hl, hf⟩ := so.sc.loc x h2
    refine ps_mono' (ps_aug (i := i) C.nd (of_decide_eq_true h1) hl he op_aug hf) ?_
    intro D σ H ⟨a, c, O0, H0, A, O, ρ, s, r, hA, I, ev, hq⟩
    rw [evS] at ev
    split at ev
    · rename_i u eu
      rw [Option.bind_eq_some_iff] at ev
      obtain ⟨⟨w, s1⟩, e1, ev⟩ := ev
      dsimp only at ev
      split at ev
      · rename_i ia ib
        rw [Option.map_eq_some_iff] at ev
        obtain ⟨w', e2, ez⟩ := ev
        subst ez
        obtain ⟨v0, ev0, rv0⟩ := I.er.sl i _ eu
        refine ⟨v0, ev0, expr_run hA I e1 fun v H1 O1 I1 r1 x1 fr => ?_⟩
        refine ⟨ia, ib, w', rv0, r1, e2, fun z ⟨k, ek, ez⟩ => ?_⟩
        subst ek ez
        exact hq _ _ ⟨O1, I1.setVal i rfl⟩
      · cases ev
    · cases ev
  | .setix i x px ix tp e esc p, X, sc, C, so, wf => by
    unfold wfS at wf
    simp only [Bool.and_eq_true] at wf
    obtain ⟨⟨⟨h0, h1⟩, h2⟩, h3⟩ := wf
    have he := (sndE e X sc C so.sc h0).pe
    have hi := (sndE ix X sc C so.sc h1).pe
    unfold varB at h2
    simp only [Bool.and_eq_true] at h2
    obtain ⟨⟨⟨g1, g2⟩, g3⟩, g4⟩ := h2
    have hv := pe_var (pos := px) (of_decide_eq_true g1) (so.sc.vis x g2) (by simpa [ndbg] using g3) (by simpa using g4)
    have hs : swapsWithSole [.Subscript (.Name x px) ix.ast tp] e.ast p.line X.env = pure false := by
      cases e <;> first | rfl | cases h3
    have hw : swappedStores [.Subscript (.Name x px) ix.ast tp] e.ast X.env = pure none := by
      cases e <;> rfl
    refine ps_mono' (ps_asg he (pg_sub (pos := tp) hv hi set_list (by intro v; cases ix <;> rfl)) hs hw rfl) ?_
    intro D σ H ⟨a, c, O0, H0, A, O, ρ, s, r, hA, I, ev, hq⟩
    rw [evS, Option.bind_eq_some_iff] at ev
    obtain ⟨⟨w, s1⟩, e1, ev⟩ := ev
    dsimp only at ev
    split at ev
    · rename_i l el
      rw [Option.bind_eq_some_iff] at ev
      obtain ⟨⟨y, s2⟩, e2, ev⟩ := ev
      dsimp only at ev
      split at ev
      · rename_i k
        rw [Option.map_eq_some_iff] at ev
        obtain ⟨j, e3, ez⟩ := ev
        subst ez
        refine expr_run hA I e1 fun v H1 O1 I1 r1 x1 fr => ?_
        obtain ⟨b, vs, f1, f2, f3, f4, f5⟩ := I1.er.ow i l el
        refine ⟨.ref b, f1, a, c, O1, after esc w ρ, s1, .int k, s2, I1.er, e2, fun z H2 x2 st2 r2 _ => ?_⟩
        have I2 := I1.step hA x2 st2
        have f4' := x2.lst f3 f4
        refine ⟨b, vs, k, j, rfl, r2, f4', by rw [← f5.length]; exact e3, hq _ _ ⟨O1, ?_⟩⟩
        exact I2.write hA el f1 f4' f2 f3 ((f5.ext x2 I1.er.rO).set j (r1.ext x2 I1.er.rO))
      · cases ev
    · cases ev
  | .set2 i x p1 i1 t1 p2 i2 t2 k pt e esc p, X, sc, C, so, wf => by
    unfold wfS at wf
    simp only [Bool.and_eq_true] at wf
    obtain ⟨⟨⟨⟨h0, h1⟩, h2⟩, h3⟩, h4⟩ := wf
    have he := (sndE e X sc C so.sc h0).pe
    have hi1 := (sndE i1 X sc C so.sc h1).pe
    have hi2 := (sndE i2 X sc C so.sc h2).pe
    unfold varB at h3
    simp only [Bool.and_eq_true] at h3
    obtain ⟨⟨⟨g1, g2⟩, g3⟩, g4⟩ := h3
    have hv1 := pe_var (pos := p1) (of_decide_eq_true g1) (so.sc.vis x g2) (by simpa [ndbg] using g3) (by simpa using g4)
    have hv2 := pe_var (pos := p2) (of_decide_eq_true g1) (so.sc.vis x g2) (by simpa [ndbg] using g3) (by simpa using g4)
    have hs : swapsWithSole [.Tuple [.Subscript (.Name x p1) i1.ast t1, .Subscript (.Name x p2) i2.ast t2] k pt] e.ast p.line X.env = pure false := by cases e <;> rfl
    have hw : swappedStores [.Tuple [.Subscript (.Name x p1) i1.ast t1, .Subscript (.Name x p2) i2.ast t2] k pt] e.ast X.env = pure none := by
      by_cases z : ∃ es k' p', e = .tup es k' p'
      · obtain ⟨es, k', p', rfl⟩ := z
        exact swapped_of so.kind (by rw [wish_env so]; exact of_decide_eq_true h4)
      · exact swappedNo fun es k' p' q => z ⟨es, k', p', q⟩
    refine ps_mono' (ps_asg he (pg_tup (pos := pt) (k := k) C.calm (pgs_cons (pg_sub (pos := t1) hv1 hi1 set_list (by intro v; cases i1 <;> rfl)) (pgs_cons (pg_sub (pos := t2) hv2 hi2 set_list (by intro v; cases i2 <;> rfl)) pgs_nil))) hs hw rfl) ?_
    intro D σ H ⟨a, c, O0, H0, A, O, ρ, s, r, hA, I, ev, hq⟩
    simp only [evS, Option.bind_eq_some_iff, Option.map_eq_some_iff] at ev
    obtain ⟨⟨w, s1⟩, e1, ⟨u0, v0⟩, ep, l, el, ⟨y, s2⟩, e2, l1, ew, ⟨z, s3⟩, e3, l2, ew2, er⟩ := ev
    dsimp only at el e2 e3 ew ew2 er ep
    subst er
    have ep' : w = .tup [u0, v0] := by
      unfold pairW at ep
      split at ep
      · cases ep; rfl
      · cases ep
    subst ep'
    have el' : (after esc (.tup [u0, v0]) ρ)[i]? = some (.own l) := by
      revert el
      generalize (after esc (.tup [u0, v0]) ρ)[i]? = o
      intro el
      unfold ownS at el
      split at el
      · cases el; rfl
      · cases el
    have ey : ∃ k j, y = .int k ∧ ixN l.length k = some j ∧ l1 = l.set j u0 := by
      unfold putW at ew
      split at ew
      · rw [Option.map_eq_some_iff] at ew
        obtain ⟨j, h, e⟩ := ew
        exact ⟨_, j, rfl, h, e.symm⟩
      · cases ew
    have ez : ∃ k j, z = .int k ∧ ixN l1.length k = some j ∧ l2 = l1.set j v0 := by
      unfold putW at ew2
      split at ew2
      · rw [Option.map_eq_some_iff] at ew2
        obtain ⟨j, h, e⟩ := ew2
        exact ⟨_, j, rfl, h, e.symm⟩
      · cases ew2
    obtain ⟨k1, j1, rfl, n1, rfl⟩ := ey
    obtain ⟨k2, j2, rfl, n2, rfl⟩ := ez
    refine expr_run hA I e1 fun v H1 O1 I1 r1 x1 fr => ?_
    obtain ⟨tb, tvs, rfl, tq, tr⟩ := r1
    obtain ⟨xv, tr1, rfl, ru, tr⟩ := tr
    obtain ⟨yv, tr2, rfl, rv, tr⟩ := tr
    cases tr
    obtain ⟨b, vs, f1, f2, f3, f4, f5⟩ := I1.er.ow i l el'
    refine ⟨tb, [xv, yv], rfl, C.hK a c ▸ tq, rfl, xv, [yv], rfl, .ref b, f1, a, c, O1, after esc (.tup [u0, v0]) ρ, s1, .int k1, s2, I1.er, e2, fun z H2 x2 st2 r2 _ => ?_⟩
    have I2 := I1.step hA x2 st2
    have f4' := x2.lst f3 f4
    have ru' := ru.ext x2 I1.er.rO
    have rv' := rv.ext x2 I1.er.rO
    refine ⟨b, vs, k1, j1, rfl, r2, f4', by rw [← f5.length]; exact n1, ?_⟩
    have I3 := I2.write hA el' f1 f4' f2 f3 ((f5.ext x2 I1.er.rO).set j1 ru')
    have rv3 := rv'.upd (ys := vs.set j1 xv) f2 f4'
    have hi : i < (after esc (.tup [u0, v0]) ρ).length := by
      rcases Nat.lt_or_ge i (after esc (.tup [u0, v0]) ρ).length with h | h
      · exact h
      · rw [List.getElem?_eq_none h] at el'; cases el'
    have el3 : ((after esc (.tup [u0, v0]) ρ).set i (.own (l.set j1 u0)))[i]? = some (.own (l.set j1 u0)) := by rw [List.getElem?_set_self hi]
    obtain ⟨b3, vs3, q1, q2, q3, q4, q5⟩ := I3.er.ow i _ el3
    refine ⟨yv, [], rfl, .ref b3, q1, a, c, O1, (after esc (.tup [u0, v0]) ρ).set i (.own (l.set j1 u0)), s2, .int k2, s3, I3.er, e3, fun z H4 x4 st4 r4 _ => ?_⟩
    have I4 := I3.step hA x4 st4
    have q4' := x4.lst q3 q4
    refine ⟨b3, vs3, k2, j2, rfl, r4, q4', by rw [← q5.length]; exact n2, rfl, hq _ _ ⟨O1, ?_⟩⟩
    exact I4.write hA el3 q1 q4' q2 q3 ((q5.ext x4 I3.er.rO).set j2 (rv3.ext x4 I3.er.rO))
  | .app i x px pa pc e esc p, X, sc, C, so, wf => by
    unfold wfS at wf
    simp only [Bool.and_eq_true] at wf
    obtain ⟨⟨h0, h2⟩, h3⟩ := wf
    have he := (sndE e X sc C so.sc h0).pe
    unfold varB at h2
    simp only [Bool.and_eq_true] at h2
    obtain ⟨⟨⟨g1, g2⟩, g3⟩, g4⟩ := h2
    have hv := pe_var (pos := px) (of_decide_eq_true g1) (so.sc.vis x g2) (by simpa [ndbg] using g3) (by simpa using g4)
    have hfew : ((backTo pc (starEach [e.ast] X.env)).all (fun x => !x.1) && (backToKw pc (keywordEach [] X.env)).all (fun x => x.1.isSome)
      && decide (([e.ast] : List Expr).length + ([] : List Keyword).length + (if ([] : List Keyword).isEmpty then 0 else 1) < 30)) = true := by
      rw [starEach_ie]; rfl
    refine ps_mono' (ps_expr (pe_bm (apos := pa) (cpos := pc) PySem.F.plainAttrs_list PySem.F.slot_list_append PySem.F.type_list_append mt_append hv (pa_cons he pa_nil (starEach_ie e [] _)) (by rfl) hfew (by simpa using of_decide_eq_true h3) (starEach_ie e [] _) (by rfl)) (by rfl)) ?_
    intro D σ H ⟨a, c, O0, H0, A, O, ρ, s, r, hA, I, ev, hq⟩
    rw [evS, Option.bind_eq_some_iff] at ev
    obtain ⟨⟨w, s1⟩, e1, ev⟩ := ev
    dsimp only at ev
    split at ev
    · rename_i l el
      split at ev
      · rename_i hz
        cases ev
        have el0 : ρ[i]? = some (.own l) := by
          unfold after at el
          split at el
          · exact el
          · exact freeze_own el
        obtain ⟨b, vs, f1, f2, f3, f4, f5⟩ := I.er.ow i l el0
        refine ⟨.ref b, f1, .inl ⟨rfl, vs, .of f4⟩, expr_run hA I e1 fun v H1 O1 I1 r1 x1 fr => ?_⟩
        obtain ⟨b', vs', k1, k2, k3, k4, k5⟩ := I1.er.ow i l el
        rw [f1] at k1
        cases k1
        refine ⟨b, vs', v, rfl, rfl, k4, by rw [← k5.length]; exact hz, hq _ _ ⟨O1, ?_⟩⟩
        exact I1.write hA el f1 k4 k2 k3 (k5.append (Reps.cons r1 Reps.nil))
      · cases ev
    · cases ev
  | .ins i x px pa pc k e esc p, X, sc, C, so, wf => by
    unfold wfS at wf
    simp only [Bool.and_eq_true] at wf
    obtain ⟨⟨⟨hk0, h0⟩, h2⟩, h3⟩ := wf
    have hk := (sndE k X sc C so.sc hk0).pe
    have he := (sndE e X sc C so.sc h0).pe
    unfold varB at h2
    simp only [Bool.and_eq_true] at h2
    obtain ⟨⟨⟨g1, g2⟩, g3⟩, g4⟩ := h2
    have hv := pe_var (pos := px) (of_decide_eq_true g1) (so.sc.vis x g2) (by simpa [ndbg] using g3) (by simpa using g4)
    have hfew : ((backTo pc (starEach [k.ast, e.ast] X.env)).all (fun x => !x.1) && (backToKw pc (keywordEach [] X.env)).all (fun x => x.1.isSome)
      && decide (([k.ast, e.ast] : List Expr).length + ([] : List Keyword).length + (if ([] : List Keyword).isEmpty then 0 else 1) < 30)) = true := by
      rw [starEach_ie, starEach_ie]; rfl
    refine ps_mono' (ps_expr (pe_bm (apos := pa) (cpos := pc) PySem.F.plainAttrs_list PySem.F.slot_list_insert PySem.F.type_list_insert mt_insert hv (pa_cons hk (pa_cons he pa_nil (starEach_ie e [] _)) (starEach_ie k [e.ast] _)) (by rfl) hfew (by simpa using of_decide_eq_true h3) (starEach_ie k [e.ast] _) (by rw [starEach_ie]; rfl)) (by rfl)) ?_
    intro D σ H ⟨a, c, O0, H0, A, O, ρ, s, r, hA, I, ev, hq⟩
    rw [evS, Option.bind_eq_some_iff] at ev
    obtain ⟨⟨w0, s1⟩, e1, ev⟩ := ev
    dsimp only at ev
    split at ev
    · rename_i j
      rw [Option.bind_eq_some_iff] at ev
      obtain ⟨⟨w, s2⟩, e2, ev⟩ := ev
      dsimp only at ev
      split at ev
      · rename_i l el
        split at ev
        · rename_i hz
          obtain ⟨hz1, hz2, hz3⟩ := hz
          cases ev
          have el0 : ρ[i]? = some (.own l) := by
            unfold after at el
            split at el
            · exact el
            · exact freeze_own el
          obtain ⟨b, vs, f1, f2, f3, f4, f5⟩ := I.er.ow i l el0
          refine ⟨.ref b, f1, .inl ⟨rfl, vs, .of f4⟩, a, c, O, ρ, s, .int j, s1, I.er, e1, fun z H1 x1 st1 r1 _ => ?_⟩
          have I1 := I.step hA x1 st1
          refine expr_run hA I1 e2 fun v H2 O2 I2 r2 x2 fr => ?_
          obtain ⟨b', vs', k1, k2, k3, k4, k5⟩ := I2.er.ow i l el
          rw [f1] at k1
          cases k1
          have ez : z = V.int j := r1
          subst ez
          refine ⟨b, vs', j, v, rfl, rfl, k4, by rw [← k5.length]; exact hz1, hz2, hz3, hq _ _ ⟨O2, ?_⟩⟩
          exact I2.write hA el f1 k4 k2 k3 (((k5.take j.toNat).append (Reps.cons r2 Reps.nil)).append (k5.drop j.toNat))
        · cases ev
      · cases ev
    · cases ev
  | .ret e esc p, X, sc, C, so, wf => by
    unfold wfS at wf
    have he := (sndE e X sc C so.sc wf).pe
    refine ps_mono' (ps_ret he) ?_
    intro D σ H ⟨a, c, O0, H0, A, O, ρ, s, r, hA, I, ev, hq⟩
    rw [evS, Option.map_eq_some_iff] at ev
    obtain ⟨⟨w, s1⟩, e1, ez⟩ := ev
    subst ez
    exact expr_run hA I e1 fun v H1 O1 I1 r1 x1 fr => hq v H1 I1.ext I1.er.st (r1.less I1.sub)
  | .retn p, X, sc, C, so, wf => by
    refine ps_mono' ps_retN ?_
    intro D σ H ⟨a, c, O0, H0, A, O, ρ, s, r, hA, I, ev, hq⟩
    rw [evS] at ev
    cases ev
    exact hq .non H I.ext I.er.st rfl
  | .ite e x y esc p, X, sc, C, so, wf => by
    unfold wfS at wf
    simp only [Bool.and_eq_true] at wf
    have hc := (sndE e X sc C so.sc wf.1.1).pt
    have hx := sndSs x X sc C so wf.1.2
    have hy := sndSs y X sc C so wf.2
    refine ps_mono' (ps_if hc hx hy) ?_
    intro D σ H ⟨a, c, O0, H0, A, O, ρ, s, r, hA, I, ev, hq⟩
    rw [evS, Option.bind_eq_some_iff] at ev
    obtain ⟨⟨w, s1⟩, e1, ev⟩ := ev
    rw [Option.bind_eq_some_iff] at ev
    obtain ⟨b, e2, ev⟩ := ev
    refine test_run hA I e1 e2 fun H1 I1 => ?_
    cases b with
    | true => exact L2.iteT ⟨a, c, O0, H0, A, O, ρ, s1, r, hA, I1, by simpa using ev, hq⟩
    | false => exact L2.iteF ⟨a, c, O0, H0, A, O, ρ, s1, r, hA, I1, by simpa using ev, hq⟩
  | .whl e b esc wp p, X, sc, C, so, wf => by
    unfold wfS at wf
    simp only [Bool.and_eq_true] at wf
    have hc := (sndE e X sc C so.sc wf.1).pt
    have hb := sndSs b X sc C so wf.2
    refine ps_mono' (ps_while so.po hc hb) ?_
    intro D σ H ⟨a, c, O0, H0, A, O, ρ, s, r, hA, I, ev, hq⟩
    rw [evS] at ev
    obtain ⟨n, hn⟩ := iter_some ev
    refine ⟨fun m σ H => ∃ O ρ s, SI (mk a c) O0 H0 A O σ ρ s H ∧ iterN _ m (ρ, s) = some r, ⟨n, O, ρ, s, I, hn⟩, ?_⟩
    intro m σ H ⟨O, ρ, s, I, hm⟩
    cases m with
    | zero => cases hm
    | succ m =>
      rw [iterN] at hm
      split at hm
      · cases hm
      · rename_i r' ef
        cases hm
        rw [Option.bind_eq_some_iff] at ef
        obtain ⟨⟨w, s1⟩, e1, ef⟩ := ef
        rw [Option.bind_eq_some_iff] at ef
        obtain ⟨t, e2, ef⟩ := ef
        refine test_run hA I e1 e2 fun H1 I1 => ?_
        cases t with
        | false =>
          refine L2.iteF ?_
          simp only [Bool.false_eq_true, if_false, Option.some.injEq, Sum.inr.injEq] at ef
          subst ef
          exact hq σ H1 ⟨O, I1⟩
        | true =>
          refine L2.iteT ?_
          simp only [if_true, Option.bind_eq_some_iff] at ef
          obtain ⟨⟨fl, ρ2, s2⟩, e3, ef⟩ := ef
          refine ⟨fun _ _ => False, fun _ _ z => z.elim, a, c, O0, H0, A, O, ρ, s1, _, hA, I1, e3, ?_⟩
          cases fl with
          | nx => cases ef
          | cnt => cases ef
          | brk =>
            simp only [Option.some.injEq, Sum.inr.injEq] at ef
            subst ef
            exact fun σ' H' ⟨O', I'⟩ => hq σ' H' ⟨O', I'.less (Less.wipe _ _)⟩
          | ret v =>
            simp only [Option.some.injEq, Sum.inr.injEq] at ef
            subst ef
            exact hq
      · rename_i a' ef
        rw [Option.bind_eq_some_iff] at ef
        obtain ⟨⟨w, s1⟩, e1, ef⟩ := ef
        rw [Option.bind_eq_some_iff] at ef
        obtain ⟨t, e2, ef⟩ := ef
        refine test_run hA I e1 e2 fun H1 I1 => ?_
        cases t with
        | false =>
          simp only [Bool.false_eq_true, if_false, Option.some.injEq] at ef
          cases ef
        | true =>
          refine L2.iteT ?_
          simp only [if_true, Option.bind_eq_some_iff] at ef
          obtain ⟨⟨fl, ρ2, s2⟩, e3, ef⟩ := ef
          refine ⟨fun σ' H' => ∃ O ρ s, SI (mk a c) O0 H0 A O σ' ρ s H' ∧ iterN _ m (ρ, s) = some r, fun σ' H' h => ⟨m, Nat.lt_succ_self m, h⟩, a, c, O0, H0, A, O, ρ, s1, _, hA, I1, e3, ?_⟩
          cases fl with
          | nx =>
            simp only [Option.some.injEq, Sum.inl.injEq] at ef
            subst ef
            exact fun σ' H' ⟨O', I'⟩ => ⟨O', _, _, I'.less (Less.wipe _ _), hm⟩
          | cnt =>
            simp only [Option.some.injEq, Sum.inl.injEq] at ef
            subst ef
            exact fun σ' H' ⟨O', I'⟩ => ⟨O', _, _, I'.less (Less.wipe _ _), hm⟩
          | brk => cases ef
          | ret v => cases ef
  | .for_ tg it b esc wp p, X, sc, C, so, wf => by
    unfold wfS at wf
    simp only [Bool.and_eq_true] at wf
    have hi := sndI it false tg X sc C so.sc wf.1.1
    have hg := sndT mk C.hK C.calm C.nd so.sc tg wf.1.2
    have hb := sndSs b X sc C so wf.2
    refine ps_mono' (ps_for so.po C.calm hi hg hb (folded_ii it X.env)) ?_
    intro D σ H ⟨a, c, O0, H0, A, O, ρ, s, r, hA, I, ev, hq⟩
    rw [evS, Option.bind_eq_some_iff] at ev
    obtain ⟨⟨ws, s1⟩, e1, ev⟩ := ev
    obtain ⟨Oa, hs, If⟩ := I.freeze hA esc
    refine ⟨a, c, Oa, freeze esc ρ, s, ws, s1, If.er, e1, fun J H1 x1 st1 hit => ?_⟩
    have I1 := If.step hA x1 st1
    obtain ⟨supp, h0, hst, hgo⟩ := hit (fun x => Oa x ∨ H1 x = none) (fun x => Oa x ∨ H1 x = none) (fun x h => h) (fun x h => .inl (If.er.rO x h)) (fun x h => h) (fun z => by cases z)
    let A' : Anch := fun O2 H2 => A O2 H2 ∧ supp H2 ∧ (∀ x, O2 x → Oa x ∨ H1 x = none) ∧ ∀ x o, H1 x = some o → ∃ o', H2 x = some o'
    have hA' : Stable (mk a c) A' := by
      intro O2 H2 O3 H3 ⟨g1, g2, g3, g4⟩ E
      refine ⟨hA _ _ _ _ g1 E, ?_, fun x h => ?_, fun x o h => ?_⟩
      · have S : Stp (mk a c) (fun x => Oa x ∨ H1 x = none) H2 H3 := ⟨E.stp.1, fun b vs e => ⟨e.1, (E.stp.2 b vs ⟨fun z => e.1 (g3 b z), e.2⟩).2⟩⟩
        exact hst _ _ g2 S S
      · rcases E.new x h with h | h
        · exact g3 x h
        · cases e : H1 x with
          | none => exact .inr rfl
          | some o => obtain ⟨o', e'⟩ := g4 x o e; rw [h] at e'; cases e'
      · obtain ⟨o', e'⟩ := g4 x o h
        exact E.dom x o' e'
    have up : ∀ {O σ ρ s H}, SI (mk a c) O0 H0 A' O σ ρ s H → SI (mk a c) O0 H0 A O σ ρ s H := fun I => { er := I.er, sub := I.sub, new := I.new, ext := I.ext, own := I.own, anc := I.anc.1 }
    have I1' : SI (mk a c) O0 H0 A' Oa σ (freeze esc ρ) s1 H1 := { er := I1.er, sub := I1.sub, new := I1.new, ext := I1.ext, own := I1.own, anc := ⟨I1.anc, h0, fun x h => .inl h, fun x o h => ⟨o, h⟩⟩ }
    refine ⟨fun i m σ H => m = ws.length - i ∧ i ≤ ws.length ∧ ∃ O ρ s, SI (mk a c) O0 H0 A' O σ ρ s H ∧ forGo _ (ws.drop i) (ρ, s) = some r, ⟨ws.length, by omega, by omega, Oa, _, s1, I1', by simpa using ev⟩, ?_⟩
    intro i m σ H ⟨em, hi2, O, ρ, s, I, hm⟩
    obtain ⟨hsome, hnone⟩ := hgo H I.anc.2.1 i
    cases hw : ws[i]? with
    | none =>
      have hie : ws.length ≤ i := List.getElem?_eq_none_iff.mp hw
      rw [List.drop_of_length_le hie, forGo] at hm
      cases hm
      exact .inl ⟨hnone hw, hq σ H ⟨O, up I⟩⟩
    | some w =>
      obtain ⟨hgo1, hyld⟩ := hsome w hw
      have hil : i < ws.length := (List.getElem?_eq_some_iff.mp hw).1
      have edrop : ws.drop i = w :: ws.drop (i + 1) := by
        rw [List.drop_eq_getElem_cons hil]
        rw [List.getElem?_eq_getElem hil] at hw
        cases hw; rfl
      rw [edrop, forGo, Option.bind_eq_some_iff] at hm
      obtain ⟨r1, ef, hm⟩ := hm
      rw [Option.bind_eq_some_iff] at ef
      obtain ⟨ρ1, ea, ef⟩ := ef
      rw [Option.bind_eq_some_iff] at ef
      obtain ⟨⟨fl, ρ2, s2⟩, eb, ef⟩ := ef
      refine .inr ⟨hgo1, fun σ' H' => ∃ O ρ s, SI (mk a c) O0 H0 A' O σ' ρ s H' ∧ forGo _ (ws.drop (i + 1)) (ρ, s) = some r, fun σ' H' h => ⟨ws.length - (i + 1), by omega, rfl, by omega, h⟩, fun x H' hy => ?_⟩
      obtain ⟨sm, rx⟩ := hyld x H' hy
      have I2 := I.step hA' (Ext.of_same sm) (rel_same I.er.st sm)
      have rx' : Rep (mk a c) O H' w x := rx.less fun b h => I.anc.2.2.1 b h
      refine ⟨a, c, O, ρ, s, w, ρ1, I2.er, rx', ea, fun σ' E' hl hd => ⟨a, c, O0, H0, A', O, ρ1, s, (fl, ρ2, s2), hA', ?_, eb, ?_⟩⟩
      · exact { er := E', sub := I2.sub, new := I2.new, ext := I2.ext, anc := I2.anc, own := asgT_own ea I2 E' hl hd }
      · cases fl with
        | nx =>
          cases ef
          exact fun σ' H' ⟨O', I'⟩ => ⟨O', _, _, I'.less (Less.wipe _ _), hm⟩
        | cnt =>
          cases ef
          exact fun σ' H' ⟨O', I'⟩ => ⟨O', _, _, I'.less (Less.wipe _ _), hm⟩
        | brk =>
          cases ef
          cases hm
          exact fun σ' H' ⟨O', I'⟩ => hq σ' H' ⟨O', up (I'.less (Less.wipe _ _))⟩
        | ret v =>
          cases ef
          cases hm
          exact hq
  | .brk p, X, sc, C, so, wf => by
    refine ps_mono' ps_break ?_
    intro D σ H ⟨a, c, O0, H0, A, O, ρ, s, r, hA, I, ev, hq⟩
    rw [evS] at ev
    cases ev
    exact hq σ H ⟨O, I⟩
  | .cnt p, X, sc, C, so, wf => by
    refine ps_mono' ps_continue ?_
    intro D σ H ⟨a, c, O0, H0, A, O, ρ, s, r, hA, I, ev, hq⟩
    rw [evS] at ev
    cases ev
    exact hq σ H ⟨O, I⟩
  | .pass p, X, sc, C, so, wf => by
    refine ps_mono' ps_pass ?_
    intro D σ H ⟨a, c, O0, H0, A, O, ρ, s, r, hA, I, ev, hq⟩
    rw [evS] at ev
    cases ev
    exact hq σ H ⟨O, I⟩
theorem sndSs {T : Tab} : ∀ (ss : ISs) (X : Cx) (sc : Scope), CxOk mk F G T X → StOk X sc → wfSs T X.N sc ss = true → PSs X ss.ast (tS mk (evSs F G ss))
  | .nil, X, sc, C, so, wf => by
    refine pss_mono' pss_nil ?_
    intro D σ H ⟨a, c, O0, H0, A, O, ρ, s, r, hA, I, ev, hq⟩
    rw [evSs] at ev
    cases ev
    exact hq σ H ⟨O, I⟩
  | .cons st ss, X, sc, C, so, wf => by
    unfold wfSs at wf
    rw [Bool.and_eq_true] at wf
    refine pss_mono' (pss_cons (sndS st X sc C so wf.1) (sndSs ss X sc C so wf.2)) ?_
    intro D σ H ⟨a, c, O0, H0, A, O, ρ, s, r, hA, I, ev, hq⟩
    rw [evSs, Option.bind_eq_some_iff] at ev
    obtain ⟨⟨fl, ρ1, s1⟩, e1, ev⟩ := ev
    refine ⟨a, c, O0, H0, A, O, ρ, s, _, hA, I, e1, ?_⟩
    cases fl with
    | nx => exact fun σ' H' ⟨O', I'⟩ => ⟨a, c, O0, H0, A, O', ρ1, s1, r, hA, I', ev, hq⟩
    | brk => cases ev; exact hq
    | cnt => cases ev; exact hq
    | ret v => cases ev; exact hq
end
end
end MP

/-! MP12: defs, a program of defs. -/
namespace MP
open PySem PySem.Spec PyProof.Rows L2

/-- a def: its name, its text, its small form, its parameters, its slots -/
structure FD where
  x : Str
  st : Stmt
  b : ISs
  ps : List Str
  N : List Str
  tb : Bool
/-- its arguments bind to its parameters -/
def FD.Bind (d : FD) : Prop := ∀ (nm : Str) (kV doc pm : Value) (an : Option Addr) (cdv ct : Value) (us : List Value), us.length = d.ps.length → bindArgs (PySem.W.fnOf nm nm (defArgs d.st) (defBody d.st) (defScope d.st) .none kV doc pm an cdv ct) ⟨us, []⟩ = pure (d.ps.zip us)
/-- what is looked at in a def's text -/
def FD.look (T : Tab) (d : FD) : Bool :=
  (match (defScope d.st).kind with | .function => true | _ => false) && !(defScope d.st).isCoroutine && !(defScope d.st).isGenerator && decide d.N.Nodup && decide (d.N.take d.ps.length = d.ps) &&
    (d.ps.all fun x => locB (defScope d.st) x) && ((defScope d.st).names.all fun y => match y.2 with | .free => false | _ => true) && wfSs T d.N (defScope d.st) d.b
theorem FD.scope {T : Tab} {d : FD} (h : d.look T = true) : FnScope d.N d.ps (defScope d.st) ∧ wfSs T d.N (defScope d.st) d.b = true := by
  unfold FD.look at h
  simp only [Bool.and_eq_true, decide_eq_true_eq] at h
  obtain ⟨⟨⟨⟨⟨⟨⟨h1, h2⟩, h3⟩, h4⟩, h5⟩, h6⟩, h7⟩, h9⟩ := h
  refine ⟨⟨?_, by simpa using h2, by simpa using h3, h4, h5, fun x hx => ?_, fun y hy => ?_⟩, h9⟩
  · revert h1; cases (defScope d.st).kind <;> intro h1 <;> first | rfl | cases h1
  · have := List.all_eq_true.mp h6 x hx
    unfold locB at this
    split at this <;> rename_i e
    · exact .inl e
    · exact .inr e
    · cases this
  · have := List.all_eq_true.mp h7 y hy
    intro z
    rw [z] at this
    cases this
section
variable {S : Type} (mk : Addr → Addr → Sys S) (F : Str → List W → S → Option (W × S)) (G : Str → Option W)
variable (P : Program) (w : World) (K : PySem.W.Frag) (mg : Str → Option Value) (base : Heap)
/-- a def of the program that keeps its promise -/
structure Lib (k : Nat) (g : Str) : Prop where
  ex : ∃ (fa : Addr) (fd : FuncData) (ps : List Str), FnOk P w K mg base CX0 k fa fd ps (spF mk F g ps.length) ∧ mg g = some (.ref fa) ∧ PySem.W.keepIn K (.ref fa) = true ∧ Binds K fd ps [] ∧ ∀ ws s r, F g ws s = some r → ws.length = ps.length
/-- a constant of the module -/
structure GlbOk (x : Str) : Prop where
  ex : ∃ u v w, G x = some w ∧ mg x = some u ∧ RelV v u ∧ ∀ a c O H, Rep (mk a c) O H w v
structure TabOk (T : Tab) : Prop where
  hK : ∀ a c, (mk a c).K = K
  glb : ∀ x ∈ T.gl, GlbOk mk G mg x
  blt : ∀ x ∈ T.bl, mg x = none
  gcd : T.gcd = true → mg "gcd" = some (.builtin "math.gcd")
  isq : T.isq = true → mg "isqrt" = some (.builtin "math.isqrt")
variable {mk F G P w K mg base}
theorem Lib.mono {j k : Nat} {g : Str} (h : Lib mk F P w K mg base j g) (l : j ≤ k) : Lib mk F P w K mg base k g :=
  let ⟨fa, fd, ps, a, b⟩ := h.ex; ⟨fa, fd, ps, a.mono l, b⟩
theorem cx_ok {T : Tab} (TO : TabOk mk G K mg T) {k : Nat} (fns : ∀ g ∈ T.fl, Lib mk F P w K mg base k g) {N : List Str} {qual : Str} {scope : Scope} {f : Addr} {cd : Value} {A : Around} {outer : List Env} {s : Shared} {H : Hp} {E : XK} (nd : N.Nodup)
    (htab : T.tb = true → ∃ c P', GxR.TabB base mg c P' ∧ cd = .ref c ∧ TabP mk P') (hr : Room k (A.deeper (envOfC qual scope s.heap.objs.size f cd))) : CxOk mk F G T (cxOf CX0 P w K mg base N qual scope f cd A outer s H E).nox where
  hK := TO.hK
  calm := rfl
  nd := nd
  rm := hr.mono (Nat.zero_le k)
  fns := fun g hg => by
    obtain ⟨fa, fd, ps, a, b, c, d, e⟩ := (fns g hg).ex
    exact ⟨k, fa, fd, ps, a, hr, b, c, d, e⟩
  glb := fun x hx => (TO.glb x hx).ex
  blt := TO.blt
  gcd := TO.gcd
  isq := TO.isq
  tab := htab
theorem st_ok {N : List Str} {qual : Str} {scope : Scope} {f : Addr} {cd : Value} {A : Around} {outer : List Env} {s : Shared} {H : Hp} {E : XK} (hk : scope.kind = .function) : StOk (cxOf CX0 P w K mg base N qual scope f cd A outer s H E).nox scope where
  scEq := rfl
  kind := hk
  fn := fun _ => rfl
  po := PassesOwn.never
/-- the slots at a def's entry -/
theorem er_start {Y : Sys S} {O : Addr → Prop} {H : Hp} {ws : List W} {vs : List V} {N : List Str} {s : S} (r : Reps Y O H ws vs) (hl : ws.length ≤ N.length) (hR : ∀ b, Y.R b → O b) (hd : ∀ b, O b → ∃ o, H b = some o) (st : Y.rel s H) :
    ERel Y O (L2.start N vs) (ws.map Sl.val ++ List.replicate (N.length - ws.length) .no) s H where
  len := by
    unfold L2.start
    rw [List.length_append, List.length_append, List.length_map, List.length_map, List.length_replicate, List.length_replicate, r.length]
  sl := fun i w e => by
    unfold L2.start
    rw [List.getElem?_append] at e ⊢
    rw [List.length_map] at e ⊢
    split at e
    · rename_i h
      rw [List.getElem?_map] at e
      cases h2 : ws[i]? with
      | none => rw [h2] at e; cases e
      | some w' =>
        rw [h2] at e
        cases e
        obtain ⟨v, e1, r1⟩ := r.get' h2
        refine ⟨v, ?_, r1⟩
        rw [if_pos (by rw [← r.length]; exact h), List.getElem?_map, e1]; rfl
    · rw [List.getElem?_replicate] at e
      split at e <;> cases e
  ow := fun i l e => by
    rw [List.getElem?_append] at e
    rw [List.length_map] at e
    split at e
    · rw [List.getElem?_map] at e
      cases h2 : ws[i]? with
      | none => rw [h2] at e; cases e
      | some w' => rw [h2] at e; cases e
    · rw [List.getElem?_replicate] at e
      split at e <;> cases e
  dis := fun i j l m a e _ _ _ => by
    rw [List.getElem?_append] at e
    rw [List.length_map] at e
    split at e
    · rw [List.getElem?_map] at e
      cases h2 : ws[i]? with
      | none => rw [h2] at e; cases e
      | some w' => rw [h2] at e; cases e
    · rw [List.getElem?_replicate] at e
      split at e <;> cases e
  rO := hR
  dom := hd
  st := st
theorem no_own {ws : List W} {n i : Nat} {l : List W} : (ws.map Sl.val ++ List.replicate n .no)[i]? ≠ some (.own l) := by
  intro e
  rw [List.getElem?_append] at e
  rw [List.length_map] at e
  split at e
  · rw [List.getElem?_map] at e
    cases h2 : ws[i]? with
    | none => rw [h2] at e; cases e
    | some w' => rw [h2] at e; cases e
  · rw [List.getElem?_replicate] at e
    split at e <;> cases e
/-- the code object of the def that stands at f -/
def CodeAt (K : PySem.W.Frag) (f c : Addr) : Prop := ∀ oc od fd osl, K.lookup f = some ⟨oc, od, .func fd, osl⟩ → fd.code = .ref c
/-- THE RULE: a def that the evaluator runs as F says keeps its promise -/
theorem fn_ok2 {F' : Str → List W → S → Option (W × S)} {T : Tab} (TO : TabOk mk G K mg T) {k : Nat} (fns : ∀ g ∈ T.fl, Lib mk F P w K mg base k g) {d : FD} (hlk : d.look T = true) (hb : d.b.ast = defBody d.st) (hbi : d.Bind) {f : Addr} {fd : FuncData} {nm : Str} (FU : Fun K nm nm d.st f fd) (hm : mg d.x = some (.ref f)) (htab : T.tb = true → ∃ c P', GxR.TabB base mg c P' ∧ CodeAt K f c ∧ TabP mk P')
    (spec : ∀ ws s r, F' d.x ws s = some r → evF F G d.ps.length d.N.length d.b ws s = some r) : Lib mk F' P w K mg base (k + 1) d.x := by
  obtain ⟨S, wf⟩ := FD.scope hlk
  have har : ∀ ws s r, F' d.x ws s = some r → ws.length = d.ps.length := fun ws s r e => by
    have h := spec ws s r e
    unfold evF at h
    split at h
    · assumption
    · cases h
  refine ⟨f, fd, d.ps, ?_, hm, FU.kp, FU.binds (hbi _), har⟩
  obtain ⟨oc, od, kV, doc, pm, an, cdv, ct, osl, rfl, lk, hcd⟩ := FU.ex
  refine fn_of lk hcd S (fun vs H Q E h => ?_) fun A outer s H vs Q E hr h => ?_
  · obtain ⟨a, c, O, ws, s, w, s', hl, r, _⟩ := h
    rw [← r.length, hl]
  · have C := cx_ok (E := E) (H := H) (outer := outer) (cd := cdv) (f := f) (qual := nm) (scope := defScope d.st) (s := s) TO fns S.nd (fun z => let ⟨c, P', h1, h2, h3⟩ := htab z; ⟨c, P', h1, h2 _ _ _ _ lk, h3⟩) hr
    refine ⟨_, (hb ▸ sndSs d.b _ _ C (st_ok S.kind) wf).nox, ?_⟩
    obtain ⟨a, c, O, ws, s', w, s'', hl, r, hR, hd, st, e, q⟩ := h
    have h := spec ws s' _ e
    unfold evF at h
    rw [if_pos hl, Option.bind_eq_some_iff] at h
    obtain ⟨⟨fl, ρ1, s1⟩, h1, h2⟩ := h
    have hpl : d.ps.length ≤ d.N.length := by have := congrArg List.length S.pre; rw [List.length_take] at this; omega
    have E0 := er_start (N := d.N) r (by omega) hR hd st
    rw [hl] at E0
    refine ⟨a, c, O, H, fun _ _ => True, O, _, s', _, fun _ _ _ _ _ _ => trivial, { er := E0, sub := fun b h => h, new := fun b h => .inl h, ext := Ext.refl, own := fun i l b e _ => (no_own e).elim, anc := trivial }, h1, ?_⟩
    cases fl with
    | nx =>
      cases h2
      exact fun σ H' ⟨O', I'⟩ => q .non H' I'.ext I'.er.st rfl
    | ret v =>
      cases h2
      exact fun v H' x st r => q v H' x st r
    | brk => cases h2
    | cnt => cases h2

theorem fn_ok {T : Tab} (TO : TabOk mk G K mg T) {k : Nat} (fns : ∀ g ∈ T.fl, Lib mk F P w K mg base k g) {d : FD} (hlk : d.look T = true) (hb : d.b.ast = defBody d.st) (hbi : d.Bind) {f : Addr} {fd : FuncData} {nm : Str} (FU : Fun K nm nm d.st f fd) (hm : mg d.x = some (.ref f)) (htab : T.tb = true → ∃ c P', GxR.TabB base mg c P' ∧ CodeAt K f c ∧ TabP mk P')
    (spec : ∀ ws s r, F d.x ws s = some r → evF F G d.ps.length d.N.length d.b ws s = some r) : Lib mk F P w K mg base (k + 1) d.x := fn_ok2 TO fns hlk hb hbi FU hm htab spec
theorem Lib.congr {F' : Str → List W → S → Option (W × S)} {k : Nat} {g : Str} (h : F g = F' g) (L : Lib mk F P w K mg base k g) : Lib mk F' P w K mg base k g := by
  obtain ⟨fa, fd, ps, a, b, c, d, e⟩ := L.ex
  refine ⟨fa, fd, ps, ?_, b, c, d, by rw [← h]; exact e⟩
  have z : spF mk F' g ps.length = spF mk F g ps.length := by unfold spF; rw [h]
  rw [z]
  exact a
/-- a def that calls itself: F' says what it tells to a depth -/
theorem rec_ok {T : Tab} (TO : TabOk mk G K mg T) {k : Nat} {d : FD} (fns : ∀ g ∈ T.fl, g ≠ d.x → Lib mk F P w K mg base k g) (hlk : d.look T = true) (hb : d.b.ast = defBody d.st) (hbi : d.Bind) {f : Addr} {fd : FuncData} (FU : Fun K d.x d.x d.st f fd) (hm : mg d.x = some (.ref f)) (htb : T.tb = false)
    (E : Nat → List W → S → Option (W × S)) (h0 : ∀ ws s, E 0 ws s = none) (spec : ∀ j ws s r, E (j + 1) ws s = some r → evF (fun x => if x = d.x then E j else F x) G d.ps.length d.N.length d.b ws s = some r) : ∀ j, Lib mk (fun x => if x = d.x then E j else F x) P w K mg base (k + j) d.x
  | 0 => by
    refine ⟨f, fd, d.ps, ⟨fun vs H Q X h => ?_, fun A outer s H args us vs Q X _ _ _ _ h => ?_⟩, hm, FU.kp, FU.binds (hbi _), fun ws s r h => ?_⟩
    · obtain ⟨a, c, O, ws, s, w, s', _, _, _, _, _, e, _⟩ := h
      simp only [if_pos] at e
      rw [h0] at e; cases e
    · obtain ⟨a, c, O, ws, s, w, s', _, _, _, _, _, e, _⟩ := h
      simp only [if_pos] at e
      rw [h0] at e; cases e
    · simp only [if_pos] at h
      rw [h0] at h; cases h
  | j + 1 => by
    have L := rec_ok TO fns hlk hb hbi FU hm htb E h0 spec j
    refine fn_ok2 (F := fun x => if x = d.x then E j else F x) (k := k + j) TO (fun g hg => ?_) hlk hb hbi FU hm (fun z => by rw [htb] at z; cases z) (fun ws s r h => spec j ws s r (by simpa only [if_pos] using h))
    by_cases q : g = d.x
    · rw [q]; exact L
    · exact ((fns g hg q).mono (Nat.le_add_right k j)).congr (by simp only [if_neg q])
/-- a def as it stands behind the top -/
structure DefAt (K : PySem.W.Frag) (x : Str) (st : Stmt) : Prop where
  ex : ∃ (f : Addr) (fd : FuncData), PySem.W.nsIn K mainGlobals x = some (some (.ref f)) ∧ Fun K x x st f fd
theorem DefAt.mk' {K : PySem.W.Frag} {x : Str} {st : Stmt} {f : Addr} {oc : Value} {od an : Option Addr} {osl : Array (Option Value)} {kV doc pm cdv ct : Value} (a : PySem.W.nsIn K mainGlobals x = some (some (.ref f)))
    (l : K.lookup f = some ⟨oc, od, .func (PySem.W.fnOf x x (defArgs st) (defBody st) (defScope st) .none kV doc pm an cdv ct), osl⟩) (c : PySem.W.codeIn K cdv x = true) (k : PySem.W.keepIn K (.ref f) = true) : DefAt K x st :=
  ⟨f, _, a, fun_mk l c k⟩
/-- a def that a name of the top stands for, whatever it was called itself -/
structure DefAl (K : PySem.W.Frag) (x : Str) (st : Stmt) : Prop where
  ex : ∃ (f : Addr) (fd : FuncData) (nm : Str), PySem.W.nsIn K mainGlobals x = some (some (.ref f)) ∧ Fun K nm nm st f fd
theorem DefAl.mk' {K : PySem.W.Frag} {x nm : Str} {st : Stmt} {f : Addr} {oc : Value} {od an : Option Addr} {osl : Array (Option Value)} {kV doc pm cdv ct : Value} (a : PySem.W.nsIn K mainGlobals x = some (some (.ref f)))
    (l : K.lookup f = some ⟨oc, od, .func (PySem.W.fnOf nm nm (defArgs st) (defBody st) (defScope st) .none kV doc pm an cdv ct), osl⟩) (c : PySem.W.codeIn K cdv nm = true) (k : PySem.W.keepIn K (.ref f) = true) : DefAl K x st :=
  ⟨f, _, nm, a, fun_mk l c k⟩
/-- a def whose code object's table is known -/
structure DefTab (K : PySem.W.Frag) (x : Str) (c : Addr) : Prop where
  ex : ∃ f : Addr, PySem.W.nsIn K mainGlobals x = some (some (.ref f)) ∧ CodeAt K f c
/-- what is asked of a row of defs, each of which calls earlier ones -/
def Chain (F : Str → List W → S → Option (W × S)) (G : Str → Option W) (T : Tab) : List Str → List FD → Prop
  | _, [] => True
  | ex, d :: r => d.look { T with fl := ex, tb := d.tb } = true ∧ d.b.ast = defBody d.st ∧ d.Bind ∧ (∀ ws s r, F d.x ws s = some r → evF F G d.ps.length d.N.length d.b ws s = some r) ∧ Chain F G T (d.x :: ex) r
theorem chain_ok {T : Tab} (TO : TabOk mk G K mg T) (KI : ∃ h : Heap, K.In h ∧ h.Ns mainGlobals mg) : ∀ (ds : List FD) (ex : List Str) (k : Nat), (∀ g ∈ ex, Lib mk F P w K mg base k g) → Chain F G T ex ds → (∀ d ∈ ds, DefAl K d.x d.st) → (∀ d ∈ ds, d.tb = true → ∃ c P', DefTab K d.x c ∧ GxR.TabB base mg c P' ∧ TabP mk P') →
    ∀ g, g ∈ ex ∨ g ∈ ds.map (·.x) → Lib mk F P w K mg base (k + ds.length) g
  | [], ex, k, h, _, _, _, g, hg => by
    rcases hg with hg | hg
    · exact h g hg
    · cases hg
  | d :: r, ex, k, h, ⟨c1, c2, cb, c3, c4⟩, hd, ht, g, hg => by
    obtain ⟨f, fd, nm, a, FU⟩ := (hd d (by simp)).ex
    obtain ⟨hp, KX, GX⟩ := KI
    have TO' : TabOk mk G K mg { T with fl := ex, tb := d.tb } := ⟨TO.hK, TO.glb, TO.blt, TO.gcd, TO.isq⟩
    have L := fn_ok (P := P) (w := w) (base := base) TO' h c1 c2 cb FU (PySem.W.mg_of KX GX a) (fun z => let ⟨c, P', ⟨f', a', h1⟩, h2, h3⟩ := ht d (by simp) z; ⟨c, P', h2, by rw [a] at a'; cases a'; exact h1, h3⟩) c3
    have := chain_ok TO ⟨hp, KX, GX⟩ r (d.x :: ex) (k + 1) (fun g hg => by
      rcases List.mem_cons.mp hg with rfl | hg
      · exact L
      · exact (h g hg).mono (Nat.le_succ k)) c4 (fun d' hd' => hd d' (by simp [hd'])) (fun d' hd' => ht d' (by simp [hd'])) g (by
      rcases hg with hg | hg
      · exact .inl (by simp [hg])
      · rw [List.map_cons, List.mem_cons] at hg
        rcases hg with hg | hg
        · exact .inl (by simp [hg])
        · exact .inr hg)
    rw [List.length_cons]
    rw [show k + (r.length + 1) = k + 1 + r.length by omega]
    exact this
end
end MP

/-! MP13: a row of defs as one function of names; the evaluator looks only at the names called. -/
namespace MP
open PySem PySem.Spec PyProof.Rows L2
mutual
def clsE (L : List Str) : IE → Bool
  | .var _ _ _ => true
  | .cst _ _ _ => true
  | .glob _ _ => true
  | .bin a _ b _ => clsE L a && clsE L b
  | .neg a _ => clsE L a
  | .not a _ => clsE L a
  | .boolop _ es _ => clsEs L es
  | .cmp a _ b _ => clsE L a && clsE L b
  | .chain a _ b _ c _ => clsE L a && clsE L b && clsE L c
  | .ifx c a b _ => clsE L c && clsE L a && clsE L b
  | .call f es _ _ => decide (f ∈ L) && clsEs L es
  | .bcall _ es _ _ => clsEs L es
  | .isinst e _ _ _ _ => clsE L e
  | .idx a b _ => clsE L a && clsE L b
  | .slice a lo hi _ _ => clsE L a && clsO L lo && clsO L hi
  | .revsl a _ _ _ _ _ => clsE L a
  | .tup es _ _ => clsEs L es
  | .lst es _ => clsEs L es
  | .lc elt _ it ifs _ _ _ => clsE L elt && clsI L it && clsO L ifs
  | .gen _ _ _ it _ _ _ _ _ => clsE L it
  | .lc2 elt _ it ifs _ it1 ifs1 _ _ _ _ => clsE L elt && clsI L it && clsO L ifs && clsI L it1 && clsO L ifs1
def clsEs (L : List Str) : IEs → Bool
  | .nil => true
  | .cons e es => clsE L e && clsEs L es
def clsO (L : List Str) : IO → Bool
  | .none => true
  | .some e => clsE L e
def clsI (L : List Str) : II → Bool
  | .seq e => clsE L e
  | .range es _ _ => clsEs L es
  | .zip a b _ _ => clsE L a && clsE L b
  | .enum e _ _ => clsE L e
  | .rev e _ _ => clsE L e
end
mutual
def clsS (L : List Str) : IS → Bool
  | .asg _ e _ _ _ => clsE L e
  | .par _ _ _ es _ _ _ _ => clsEs L es
  | .setlc _ _ _ e _ _ _ => clsE L e
  | .aug _ _ _ _ e _ _ => clsE L e
  | .setix _ _ _ ix _ e _ _ => clsE L ix && clsE L e
  | .set2 _ _ _ i1 _ _ i2 _ _ _ e _ _ => clsE L i1 && clsE L i2 && clsE L e
  | .app _ _ _ _ _ e _ _ => clsE L e
  | .ins _ _ _ _ _ k e _ _ => clsE L k && clsE L e
  | .ret e _ _ => clsE L e
  | .retn _ => true
  | .ite c a b _ _ => clsE L c && clsSs L a && clsSs L b
  | .whl c b _ _ _ => clsE L c && clsSs L b
  | .for_ _ it b _ _ _ => clsI L it && clsSs L b
  | .brk _ => true
  | .cnt _ => true
  | .pass _ => true
def clsSs (L : List Str) : ISs → Bool
  | .nil => true
  | .cons s ss => clsS L s && clsSs L ss
end
section
variable {S : Type} {F F' : Str → List W → S → Option (W × S)} {G : Str → Option W} {L : List Str} (h : ∀ g ∈ L, F g = F' g)
include h
mutual
theorem cgE : ∀ (e : IE), clsE L e = true → evE F G e = evE F' G e
  | .var _ _ _, _ => by funext ρ s; simp only [evE]
  | .cst _ _ _, _ => by funext ρ s; simp only [evE]
  | .glob _ _, _ => by funext ρ s; simp only [evE]
  | .bin a _ b _, c => by
    simp only [clsE, Bool.and_eq_true] at c
    funext ρ s; simp only [evE, cgE a c.1, cgE b c.2]
  | .neg a _, c => by
    simp only [clsE] at c
    funext ρ s; simp only [evE, cgE a c]
  | .not a _, c => by
    simp only [clsE] at c
    funext ρ s; simp only [evE, cgE a c]
  | .boolop _ es _, c => by
    simp only [clsE] at c
    funext ρ s; simp only [evE, cgBool _ es c]
  | .cmp a _ b _, c => by
    simp only [clsE, Bool.and_eq_true] at c
    funext ρ s; simp only [evE, cgE a c.1, cgE b c.2]
  | .chain a _ b _ d _, c => by
    simp only [clsE, Bool.and_eq_true] at c
    funext ρ s; simp only [evE, cgE a c.1.1, cgE b c.1.2, cgE d c.2]
  | .ifx d a b _, c => by
    simp only [clsE, Bool.and_eq_true] at c
    funext ρ s; simp only [evE, cgE d c.1.1, cgE a c.1.2, cgE b c.2]
  | .call f es _ _, c => by
    simp only [clsE, Bool.and_eq_true, decide_eq_true_eq] at c
    funext ρ s; simp only [evE, cgEs es c.2, h f c.1]
  | .bcall _ es _ _, c => by
    simp only [clsE] at c
    funext ρ s; simp only [evE, cgBs es c]
  | .isinst e _ _ _ _, c => by
    simp only [clsE] at c
    funext ρ s; simp only [evE, cgE e c]
  | .idx a b _, c => by
    simp only [clsE, Bool.and_eq_true] at c
    funext ρ s; simp only [evE, cgE a c.1, cgE b c.2]
  | .slice a lo hi _ _, c => by
    simp only [clsE, Bool.and_eq_true] at c
    funext ρ s; simp only [evE, cgE a c.1.1, cgO lo c.1.2, cgO hi c.2]
  | .revsl a _ _ _ _ _, c => by
    simp only [clsE] at c
    funext ρ s; simp only [evE, cgE a c]
  | .tup es _ _, c => by
    simp only [clsE] at c
    funext ρ s; simp only [evE, cgEs es c]
  | .lst es _, c => by
    simp only [clsE] at c
    funext ρ s; simp only [evE, cgEs es c]
  | .lc elt _ it ifs _ _ _, c => by
    simp only [clsE, Bool.and_eq_true] at c
    funext ρ s; simp only [evE, cgE elt c.1.1, cgI it c.1.2, cgIf ifs c.2]
  | .gen _ _ _ it _ _ _ _ _, c => by
    simp only [clsE] at c
    funext ρ s; simp only [evE, cgE it c]
  | .lc2 elt _ it ifs _ it1 ifs1 _ _ _ _, c => by
    simp only [clsE, Bool.and_eq_true] at c
    funext ρ s; simp only [evE, cgE elt c.1.1.1.1, cgI it c.1.1.1.2, cgIf ifs c.1.1.2, cgI it1 c.1.2, cgIf ifs1 c.2]
theorem cgEs : ∀ (es : IEs), clsEs L es = true → evEs F G es = evEs F' G es
  | .nil, _ => by funext ρ s; simp only [evEs]
  | .cons e es, c => by
    simp only [clsEs, Bool.and_eq_true] at c
    funext ρ s; simp only [evEs, cgE e c.1, cgEs es c.2]
theorem cgBs : ∀ (es : IEs), clsEs L es = true → evBs F G es = evBs F' G es
  | .nil, _ => by funext ρ s; simp only [evBs]
  | .cons e es, c => by
    simp only [clsEs, Bool.and_eq_true] at c
    funext ρ s; simp only [evBs, cgE e c.1, cgBs es c.2]
theorem cgBool : ∀ (op : BoolOp) (es : IEs), clsEs L es = true → evBool F G op es = evBool F' G op es
  | op, .nil, _ => by funext ρ s; cases op <;> simp only [evBool]
  | op, .cons e .nil, c => by
    simp only [clsEs, Bool.and_eq_true] at c
    funext ρ s; simp only [evBool, cgE e c.1]
  | op, .cons e (.cons e2 es), c => by
    rw [clsEs, Bool.and_eq_true] at c
    funext ρ s; simp only [evBool, cgE e c.1, cgBool op (.cons e2 es) c.2]
theorem cgO : ∀ (o : IO), clsO L o = true → evO F G o = evO F' G o
  | .none, _ => by funext ρ s; simp only [evO]
  | .some e, c => by
    simp only [clsO] at c
    funext ρ s; simp only [evO, cgE e c]
theorem cgIf : ∀ (o : IO), clsO L o = true → evIf F G o = evIf F' G o
  | .none, _ => by funext ρ s; simp only [evIf]
  | .some e, c => by
    simp only [clsO] at c
    funext ρ s; simp only [evIf, cgE e c]
theorem cgI {b : Bool} : ∀ (it : II), clsI L it = true → evI F G b it = evI F' G b it
  | .seq e, c => by
    simp only [clsI] at c
    funext ρ s; simp only [evI, cgE e c]
  | .range es _ _, c => by
    simp only [clsI] at c
    funext ρ s; simp only [evI, cgEs es c]
  | .zip a d _ _, c => by
    simp only [clsI, Bool.and_eq_true] at c
    funext ρ s; simp only [evI, cgE a c.1, cgE d c.2]
  | .enum e _ _, c => by
    simp only [clsI] at c
    funext ρ s; simp only [evI, cgE e c]
  | .rev e _ _, c => by
    simp only [clsI] at c
    funext ρ s; simp only [evI, cgE e c]
end
mutual
theorem cgS : ∀ (t : IS), clsS L t = true → evS F G t = evS F' G t
  | .asg _ e _ _ _, c => by
    simp only [clsS] at c
    funext ρ s; simp only [evS, cgE h e c]
  | .par _ _ _ es _ _ _ _, c => by
    simp only [clsS] at c
    funext ρ s; simp only [evS, cgEs h es c]
  | .setlc _ _ _ e _ _ _, c => by
    simp only [clsS] at c
    funext ρ s; simp only [evS, cgE h e c]
  | .aug _ _ _ _ e _ _, c => by
    simp only [clsS] at c
    funext ρ s; simp only [evS, cgE h e c]
  | .setix _ _ _ ix _ e _ _, c => by
    simp only [clsS, Bool.and_eq_true] at c
    funext ρ s; simp only [evS, cgE h ix c.1, cgE h e c.2]
  | .set2 _ _ _ i1 _ _ i2 _ _ _ e _ _, c => by
    simp only [clsS, Bool.and_eq_true] at c
    funext ρ s; simp only [evS, cgE h i1 c.1.1, cgE h i2 c.1.2, cgE h e c.2]
  | .app _ _ _ _ _ e _ _, c => by
    simp only [clsS] at c
    funext ρ s; simp only [evS, cgE h e c]
  | .ins _ _ _ _ _ k e _ _, c => by
    simp only [clsS, Bool.and_eq_true] at c
    funext ρ s; simp only [evS, cgE h k c.1, cgE h e c.2]
  | .ret e _ _, c => by
    simp only [clsS] at c
    funext ρ s; simp only [evS, cgE h e c]
  | .retn _, _ => by funext ρ s; simp only [evS]
  | .ite d a b _ _, c => by
    simp only [clsS, Bool.and_eq_true] at c
    funext ρ s; simp only [evS, cgE h d c.1.1, cgSs a c.1.2, cgSs b c.2]
  | .whl d b _ _ _, c => by
    simp only [clsS, Bool.and_eq_true] at c
    funext ρ s; simp only [evS, cgE h d c.1, cgSs b c.2]
  | .for_ _ it b _ _ _, c => by
    simp only [clsS, Bool.and_eq_true] at c
    funext ρ s; simp only [evS, cgI h it c.1, cgSs b c.2]
  | .brk _, _ => by funext ρ s; simp only [evS]
  | .cnt _, _ => by funext ρ s; simp only [evS]
  | .pass _, _ => by funext ρ s; simp only [evS]
theorem cgSs : ∀ (ss : ISs), clsSs L ss = true → evSs F G ss = evSs F' G ss
  | .nil, _ => by funext ρ s; simp only [evSs]
  | .cons t ss, c => by
    simp only [clsSs, Bool.and_eq_true] at c
    funext ρ s; simp only [evSs, cgS t c.1, cgSs ss c.2]
end
theorem cgF {n N : Nat} {b : ISs} (c : clsSs L b = true) : evF F G n N b = evF F' G n N b := by
  funext ws s
  unfold evF
  rw [cgSs h b c]
end

section
variable {S : Type} (G : Str → Option W)
/-- B with the defs of a row, each of which calls earlier ones -/
noncomputable def prog : (Str → List W → S → Option (W × S)) → List FD → Str → List W → S → Option (W × S)
  | B, [] => B
  | B, d :: r => prog (fun x => if x = d.x then evF B G d.ps.length d.N.length d.b else B x) r
/-- names unlike, calls of earlier names -/
def rowOk : List Str → List FD → Bool
  | _, [] => true
  | L, d :: r => !(L.contains d.x) && clsSs L d.b && rowOk (d.x :: L) r
variable {G}
theorem prog_keep {g : Str} : ∀ {B : Str → List W → S → Option (W × S)} {ds : List FD} {L : List Str}, rowOk L ds = true → g ∈ L → prog G B ds g = B g
  | B, [], L, _, _ => rfl
  | B, d :: r, L, h, hg => by
    simp only [rowOk, Bool.and_eq_true, Bool.not_eq_true', List.contains_eq_mem, decide_eq_false_iff_not] at h
    rw [prog, prog_keep h.2 (List.mem_cons_of_mem _ hg)]
    exact if_neg (fun (e : g = d.x) => h.1.1 (e ▸ hg))
theorem prog_eq : ∀ {B : Str → List W → S → Option (W × S)} {ds : List FD} {L : List Str}, rowOk L ds = true → ∀ d ∈ ds, prog G B ds d.x = evF (prog G B ds) G d.ps.length d.N.length d.b
  | B, [], L, _, d, hd => by cases hd
  | B, d :: r, L, h, d', hd => by
    have h' := h
    simp only [rowOk, Bool.and_eq_true, Bool.not_eq_true', List.contains_eq_mem, decide_eq_false_iff_not] at h
    rw [prog]
    rcases List.mem_cons.mp hd with rfl | hd
    · rw [prog_keep h.2 (List.mem_cons_self ..), if_pos rfl]
      refine (cgF (L := L) (fun g hg => ?_) h.1.2)
      rw [prog_keep h.2 (List.mem_cons_of_mem _ hg)]
      exact (if_neg (fun (e : g = d'.x) => h.1.1 (e ▸ hg))).symm
    · exact prog_eq h.2 d' hd
def lookAll (T : Tab) : List Str → List FD → Bool
  | _, [] => true
  | ex, d :: r => d.look { T with fl := ex, tb := d.tb } && lookAll T (d.x :: ex) r
/-- the row keeps its promises -/
theorem prog_chain {F : Str → List W → S → Option (W × S)} {T : Tab} : ∀ {ds : List FD} {ex : List Str}, (∀ d ∈ ds, F d.x = evF F G d.ps.length d.N.length d.b) → (∀ d ∈ ds, d.b.ast = defBody d.st ∧ d.Bind) → lookAll T ex ds = true → Chain F G T ex ds
  | [], _, _, _, _ => trivial
  | d :: r, ex, he, ha, hl => by
    rw [lookAll, Bool.and_eq_true] at hl
    refine ⟨hl.1, (ha d (List.mem_cons_self ..)).1, (ha d (List.mem_cons_self ..)).2, fun ws s r h => ?_, prog_chain (fun d' hd => he d' (List.mem_cons_of_mem _ hd)) (fun d' hd => ha d' (List.mem_cons_of_mem _ hd)) hl.2⟩
    rw [← he d (List.mem_cons_self ..)]
    exact h
end
end MP

/-! NT: the drawn sequence s -> 48271 s + 12345 mod 2147483647 runs through everything but its fixed place. -/
namespace MP
def pm (b : Nat) : Nat → Nat → Nat
  | 0, _ => 1
  | f + 1, n => if n = 0 then 1 else
    if n % 2 = 0 then pm b f (n / 2) * pm b f (n / 2) % (2147483647 : Nat) else pm b f (n / 2) * pm b f (n / 2) % (2147483647 : Nat) * b % (2147483647 : Nat)
/-- the same, each half once -/
def pmq (b : Nat) : Nat → Nat → Nat
  | 0, _ => 1
  | f + 1, n => if n = 0 then 1 else
    (fun h => if n % 2 = 0 then h * h % (2147483647 : Nat) else h * h % (2147483647 : Nat) * b % (2147483647 : Nat)) (pmq b f (n / 2))
theorem pmq_eq {b : Nat} : ∀ {f n : Nat}, n < 2 ^ f → pmq b f n = b ^ n % (2147483647 : Nat)
  | 0, n, h => by
    have : n = 0 := by simpa using h
    subst this; rfl
  | f + 1, n, h => by
    rw [pmq]
    by_cases hn : n = 0
    · subst hn; rfl
    · rw [if_neg hn]
      have ih := pmq_eq (b := b) (f := f) (n := n / 2) (by rw [Nat.pow_succ] at h; omega)
      dsimp only
      rw [ih]
      have e1 : b ^ (n / 2) % (2147483647 : Nat) * (b ^ (n / 2) % (2147483647 : Nat)) % (2147483647 : Nat) = b ^ (n / 2 + n / 2) % (2147483647 : Nat) := by
        rw [Nat.pow_add, ← Nat.mul_mod]
      rw [e1]
      split
      · congr 2; omega
      · rw [Nat.mod_mul_mod, ← Nat.pow_succ]
        congr 2; omega
theorem pw_one : 48271 ^ (2147483646 : Nat) % (2147483647 : Nat) = 1 := by
  rw [← pmq_eq (f := 31) (by decide)]; decide +kernel
theorem pw_no {q : Nat} (h : q ∈ [2, 3, 7, 11, 31, 151, 331]) : 48271 ^ ((2147483646 : Nat) / q) % (2147483647 : Nat) ≠ 1 := by
  simp only [List.mem_cons, List.not_mem_nil, or_false] at h
  rcases h with rfl | rfl | rfl | rfl | rfl | rfl | rfl <;> (rw [← pmq_eq (f := 31) (by decide)]; decide +kernel)
theorem pw_gcd {a p : Nat} (hp : 1 < p) (m n : Nat) : a ^ m % p = 1 → a ^ n % p = 1 → a ^ Nat.gcd m n % p = 1 := by
  induction m, n using Nat.gcd.induction with
  | H0 n => intro _ h; rw [Nat.gcd_zero_left]; exact h
  | H1 m n hm ih =>
    intro h1 h2
    rw [Nat.gcd_rec]
    refine ih ?_ h1
    have e : a ^ n = (a ^ m) ^ (n / m) * a ^ (n % m) := by
      rw [← Nat.pow_mul, ← Nat.pow_add, Nat.div_add_mod]
    rw [e, Nat.mul_mod, Nat.pow_mod (a ^ m), h1, Nat.one_pow, Nat.mod_eq_of_lt hp, Nat.one_mul, Nat.mod_mod] at h2
    exact h2
theorem nq_div {h q : Nat} (hq : ∀ d, d ≤ 331 → q % d = 0 → d = 1 ∨ d = q) (hq0 : 0 < q) (hq1 : q ≤ 331) (hc : Nat.gcd h q ≠ 1) : q ∣ h := by
  have h1 : Nat.gcd h q ∣ q := Nat.gcd_dvd_right ..
  rcases hq _ (Nat.le_trans (Nat.le_of_dvd hq0 h1) hq1) (Nat.mod_eq_zero_of_dvd h1) with z | z
  · exact absurd z hc
  · rw [← z]; exact Nat.gcd_dvd_left ..
theorem nq_small {q : Nat} (h : q ∈ [2, 3, 7, 11, 31, 151, 331]) : 0 < q ∧ q ≤ 331 := by
  simp only [List.mem_cons, List.not_mem_nil, or_false] at h
  rcases h with rfl | rfl | rfl | rfl | rfl | rfl | rfl <;> decide
theorem nq_prime {q : Nat} (h : q ∈ [2, 3, 7, 11, 31, 151, 331]) : ∀ d, d ≤ 331 → q % d = 0 → d = 1 ∨ d = q := by
  simp only [List.mem_cons, List.not_mem_nil, or_false] at h
  rcases h with rfl | rfl | rfl | rfl | rfl | rfl | rfl <;> decide +kernel
theorem pw_order {d : Nat} (h0 : 0 < d) (h1 : d < (2147483646 : Nat)) (h : 48271 ^ d % (2147483647 : Nat) = 1) : False := by
  have hg := pw_gcd (p := (2147483647 : Nat)) (by decide) d (2147483646 : Nat) h pw_one
  obtain ⟨k, hk⟩ := Nat.gcd_dvd_right d (2147483646 : Nat)
  have hle : Nat.gcd d (2147483646 : Nat) ≤ d := Nat.gcd_le_left _ h0
  have hpos : 0 < Nat.gcd d (2147483646 : Nat) := Nat.gcd_pos_of_pos_left _ h0
  generalize Nat.gcd d (2147483646 : Nat) = g at *
  have hk1 : k ≠ 1 := by
    rintro rfl
    omega
  have key : ∃ q ∈ [2, 3, 7, 11, 31, 151, 331], q ∣ k := by
    apply Classical.byContradiction
    intro hno
    have co : ∀ q ∈ [2, 3, 7, 11, 31, 151, 331], Nat.Coprime k q := by
      intro q hq
      apply Classical.byContradiction
      intro hc
      exact hno ⟨q, hq, nq_div (nq_prime hq) (nq_small hq).1 (nq_small hq).2 hc⟩
    have c2 := co 2 (by decide)
    have c3 := co 3 (by decide)
    have c7 := co 7 (by decide)
    have c11 := co 11 (by decide)
    have c31 := co 31 (by decide)
    have c151 := co 151 (by decide)
    have c331 := co 331 (by decide)
    have cN : Nat.Coprime k (2 * (3 * (3 * (7 * (11 * (31 * (151 * 331))))))) :=
      c2.mul_right (c3.mul_right (c3.mul_right (c7.mul_right (c11.mul_right (c31.mul_right (c151.mul_right c331))))))
    have e : 2 * (3 * (3 * (7 * (11 * (31 * (151 * 331)))))) = (2147483646 : Nat) := by decide
    rw [e] at cN
    have hd : k ∣ (2147483646 : Nat) := ⟨g, by rw [hk, Nat.mul_comm]⟩
    exact hk1 (Nat.Coprime.eq_one_of_dvd cN hd)
  obtain ⟨q, hq, r, hr⟩ := key
  apply pw_no hq
  have hq0 : 0 < q := (nq_small hq).1
  have e : (2147483646 : Nat) / q = g * r := by
    rw [hk, hr, show g * (q * r) = g * r * q from by rw [Nat.mul_comm q, Nat.mul_assoc], Nat.mul_div_cancel _ hq0]
  rw [e, Nat.pow_mul, Nat.pow_mod, hg, Nat.one_pow]
theorem pw_add {i j : Nat} : 48271 ^ (i + j) % (2147483647 : Nat) = (48271 ^ i % (2147483647 : Nat)) * (48271 ^ j % (2147483647 : Nat)) % (2147483647 : Nat) := by
  rw [Nat.pow_add, Nat.mul_mod]
theorem pw_inj {i j : Nat} (hij : i < j) (hj : j < (2147483646 : Nat)) (h : 48271 ^ i % (2147483647 : Nat) = 48271 ^ j % (2147483647 : Nat)) : False := by
  refine pw_order (d := j - i) (by omega) (by omega) ?_
  have h1 := pw_add (i := i) (j := (2147483646 : Nat) - i)
  have h2 := pw_add (i := j) (j := (2147483646 : Nat) - i)
  rw [← h, ← h1] at h2
  rw [show i + ((2147483646 : Nat) - i) = (2147483646 : Nat) from by omega, pw_one, show j + ((2147483646 : Nat) - i) = (j - i) + (2147483646 : Nat) from by omega, pw_add, pw_one, Nat.mul_one, Nat.mod_mod] at h2
  exact h2
theorem pw_pos {i : Nat} (hi : i < (2147483646 : Nat)) : 48271 ^ i % (2147483647 : Nat) ≠ 0 := by
  intro h
  have h1 := pw_add (i := i) (j := (2147483646 : Nat) - i)
  rw [h, show i + ((2147483646 : Nat) - i) = (2147483646 : Nat) from by omega, pw_one, Nat.zero_mul] at h1
  exact absurd h1 (by decide)
theorem nodup_le {l : List Nat} : ∀ {m : List Nat}, l.Nodup → (∀ a ∈ l, a ∈ m) → l.length ≤ m.length := by
  induction l with
  | nil => intro m _ _; exact Nat.zero_le _
  | cons a l ih =>
    intro m hd hm
    rw [List.nodup_cons] at hd
    have ha := hm a (List.mem_cons_self ..)
    have := ih (m := m.erase a) hd.2 (fun b hb => (List.mem_erase_of_ne (fun (e : b = a) => hd.1 (e ▸ hb))).mpr (hm b (List.mem_cons_of_mem _ hb)))
    rw [List.length_erase_of_mem ha] at this
    have := List.length_pos_of_mem ha
    rw [List.length_cons]
    omega
theorem pigeon {f : Nat → Nat} {N : Nat} (hi : ∀ i j, i < j → j < N → f i ≠ f j) (hr : ∀ i, i < N → 1 ≤ f i ∧ f i ≤ N) {x : Nat} (h1 : 1 ≤ x) (h2 : x ≤ N) : ∃ i, i < N ∧ f i = x := by
  apply Classical.byContradiction
  intro hno
  have nd : ((List.range N).map f).Nodup := by
    rw [List.nodup_iff_pairwise_ne, List.pairwise_map]
    refine (List.pairwise_lt_range).imp_of_mem ?_
    intro a b ha hb hab
    exact hi a b hab (List.mem_range.mp hb)
  have := nodup_le (m := (List.range' 1 N).erase x) nd (fun a ha => by
    obtain ⟨i, hi', rfl⟩ := List.mem_map.mp ha
    have hN := List.mem_range.mp hi'
    have := hr i hN
    exact (List.mem_erase_of_ne (fun (e : f i = x) => hno ⟨i, hN, e⟩)).mpr (List.mem_range'_1.mpr ⟨this.1, by omega⟩))
  rw [List.length_erase_of_mem (List.mem_range'_1.mpr ⟨h1, by omega⟩), List.length_map, List.length_range, List.length_range'] at this
  omega
theorem pw_all {x : Nat} (h1 : 1 ≤ x) (h2 : x < (2147483647 : Nat)) : ∃ i, i < (2147483646 : Nat) ∧ 48271 ^ i % (2147483647 : Nat) = x :=
  pigeon (f := fun i => 48271 ^ i % (2147483647 : Nat)) (fun i j hij hj h => pw_inj hij hj h) (fun i hi => ⟨Nat.pos_of_ne_zero (pw_pos hi), Nat.le_of_lt_succ (Nat.mod_lt _ (by decide))⟩) h1 (Nat.le_of_lt_succ h2)

def itn {α : Type} (f : α → α) : Nat → α → α
  | 0, a => a
  | n + 1, a => itn f n (f a)
theorem itn_add {α : Type} {f : α → α} : ∀ {m n : Nat} {a : α}, itn f (m + n) a = itn f n (itn f m a)
  | 0, n, a => by rw [Nat.zero_add]; rfl
  | m + 1, n, a => by rw [show m + 1 + n = (m + n) + 1 from by omega, itn, itn_add]; rfl
def lcg (s : Int) : Int := (s * 48271 + 12345) % 2147483647
/-- the way from the fixed place -/
def dst (s : Int) : Nat := ((s - (934936168 : Int)) % 2147483647).toNat
theorem dst_lt {s : Int} : dst s < (2147483647 : Nat) := by unfold dst; omega
theorem dst_lcg {s : Int} : dst (lcg s) = 48271 * dst s % (2147483647 : Nat) := by unfold dst lcg; omega
theorem dst_itn : ∀ {n : Nat} {s : Int}, dst (itn lcg n s) = 48271 ^ n * dst s % (2147483647 : Nat)
  | 0, s => by rw [Nat.pow_zero, Nat.one_mul, Nat.mod_eq_of_lt dst_lt]; rfl
  | n + 1, s => by
    rw [itn, dst_itn, dst_lcg, Nat.mul_mod_mod, ← Nat.mul_assoc, ← Nat.pow_succ]
theorem dst_inj {s t : Int} (hs : 0 ≤ s ∧ s < 2147483647) (ht : 0 ≤ t ∧ t < 2147483647) (h : dst s = dst t) : s = t := by unfold dst at h; omega
theorem dst_pos {s : Int} (hs : 0 ≤ s ∧ s < 2147483647) (hf : s ≠ (934936168 : Int)) : 1 ≤ dst s := by unfold dst; omega
theorem lcg_lt {s : Int} : 0 ≤ lcg s ∧ lcg s < 2147483647 := by unfold lcg; omega
theorem lcg_ne {s : Int} (hs : 0 ≤ s ∧ s < 2147483647) (hf : s ≠ (934936168 : Int)) : lcg s ≠ (934936168 : Int) := by
  intro h
  have h1 : dst (lcg s) = 0 := by rw [h]; decide
  obtain ⟨i, hi, e⟩ := pw_all (dst_pos hs hf) dst_lt
  have h2 : 48271 ^ (i + 1) % (2147483647 : Nat) = 0 := by
    rw [dst_lcg, ← e, Nat.mul_mod_mod, Nat.mul_comm, ← Nat.pow_succ] at h1
    exact h1
  have h3 : 48271 ^ (i + 1) * 48271 ^ ((2147483646 : Nat) - 1 - i) % (2147483647 : Nat) = 1 := by
    rw [← Nat.pow_add, show i + 1 + ((2147483646 : Nat) - 1 - i) = (2147483646 : Nat) from by omega, pw_one]
  rw [Nat.mul_mod, h2, Nat.zero_mul] at h3
  exact absurd h3 (by decide)
theorem itn_lt : ∀ {n : Nat} {s : Int}, (0 ≤ s ∧ s < 2147483647) → 0 ≤ itn lcg n s ∧ itn lcg n s < 2147483647
  | 0, s, h => h
  | n + 1, s, h => itn_lt (n := n) lcg_lt
/-- in steps of T every seed meets one of T rows -/
theorem reach {T : Nat} (hT0 : 0 < T) (hT : (2147483646 : Nat) % T = 0) {s : Int} (hs : 0 ≤ s ∧ s < 2147483647) (hf : s ≠ (934936168 : Int)) : ∃ j, j < T ∧ ∀ m, ∃ n, itn lcg (T * n) s = itn lcg (j + T * m) ((934936168 : Int) + 1) := by
  obtain ⟨i, hi, e⟩ := pw_all (dst_pos hs hf) dst_lt
  refine ⟨i % T, Nat.mod_lt _ hT0, fun m => ⟨(2147483646 : Nat) / T - i / T + m, ?_⟩⟩
  refine dst_inj (itn_lt hs) (itn_lt (by decide)) ?_
  have e1 : dst ((934936168 : Int) + 1) = 1 := by decide
  rw [dst_itn, dst_itn, e1, Nat.mul_one, ← e, Nat.mul_mod_mod, ← Nat.pow_add]
  have hle : i / T ≤ (2147483646 : Nat) / T := Nat.div_le_div_right (Nat.le_of_lt hi)
  have hN : T * ((2147483646 : Nat) / T) = (2147483646 : Nat) := Nat.mul_div_cancel' (Nat.dvd_of_mod_eq_zero hT)
  have hi2 := Nat.div_add_mod i T
  have h4 : T * ((2147483646 : Nat) / T - i / T + m) + i = (2147483646 : Nat) + (i % T + T * m) := by
    have hd : T * ((2147483646 : Nat) / T - i / T + m) = T * ((2147483646 : Nat) / T) - T * (i / T) + T * m := by
      rw [Nat.mul_add, Nat.mul_sub]
    have hle2 : T * (i / T) ≤ T * ((2147483646 : Nat) / T) := Nat.mul_le_mul_left _ hle
    omega
  rw [h4, pw_add, pw_one, Nat.one_mul, Nat.mod_mod]
end MP

/-! MP14: the drawing state of the laws: cells and a seed. -/
namespace MP
open PySem PySem.Spec PyProof.Rows L2

structure DS where
  cells : List Int
  seed : Int
  nn : ∀ c ∈ cells, 0 ≤ c
  sd : (0 ≤ seed ∧ seed < 2147483647) ∧ seed ≠ 934936168
def stripz : List Int → List Int
  | [] => []
  | v :: r => if v = 0 then stripz r else v :: r
theorem stripz_mem {c : Int} : ∀ {l : List Int}, c ∈ stripz l → c ∈ l
  | [], h => h
  | v :: r, h => by
    rw [stripz] at h
    split at h
    · exact List.mem_cons_of_mem _ (stripz_mem h)
    · exact h
def drwC (m : Int) : List Int → List Int
  | v :: r => if 0 < m then v / m :: r else []
  | [] => []
def drwS (k : Int) : List Int → Int
  | _ :: _ => k
  | [] => lcg k
def drwV (k m : Int) : List Int → Int
  | v :: _ => v % m
  | [] => lcg k / 64 % m
theorem drwC_nn {m : Int} {l : List Int} (h : ∀ c ∈ l, 0 ≤ c) : ∀ c ∈ drwC m l, 0 ≤ c := by
  cases l with
  | nil => exact h
  | cons v r =>
    intro c hc
    simp only [drwC] at hc
    split at hc
    · rcases List.mem_cons.mp hc with rfl | hc
      · exact Int.ediv_nonneg (h v (List.mem_cons_self ..)) (by omega)
      · exact h c (List.mem_cons_of_mem _ hc)
    · cases hc
theorem drwS_sd {k : Int} {l : List Int} (h : (0 ≤ k ∧ k < 2147483647) ∧ k ≠ 934936168) : (0 ≤ drwS k l ∧ drwS k l < 2147483647) ∧ drwS k l ≠ 934936168 := by
  cases l with
  | nil => exact ⟨lcg_lt, lcg_ne h.1 h.2⟩
  | cons v r => exact h
def drw (s : DS) (m : Int) : Int × DS := (drwV s.seed m (stripz s.cells), ⟨drwC m (stripz s.cells), drwS s.seed (stripz s.cells), drwC_nn fun c hc => s.nn c (stripz_mem hc), drwS_sd s.sd⟩)
theorem drw_cons {s : DS} {m v : Int} {r : List Int} (h : stripz s.cells = v :: r) (hm : 0 < m) : (drw s m).1 = v % m ∧ (drw s m).2.cells = v / m :: r ∧ (drw s m).2.seed = s.seed := by
  unfold drw
  dsimp only
  rw [h]
  exact ⟨rfl, if_pos hm, rfl⟩
theorem drw_nil {s : DS} {m : Int} (h : stripz s.cells = []) : (drw s m).1 = (s.seed * 48271 + 12345) % 2147483647 / 64 % m ∧ (drw s m).2.cells = [] ∧ (drw s m).2.seed = (s.seed * 48271 + 12345) % 2147483647 := by
  unfold drw
  dsimp only
  rw [h]
  exact ⟨rfl, rfl, rfl⟩
theorem triples_nil : TriplesOk (#[] : Array Value).toList := by
  unfold TriplesOk
  first | trivial | simp
/-- what the heap bears -/
def DRel (hs c : Addr) (s : DS) (H : Hp) : Prop := hs ≠ c ∧ H hs = some (.lst [.ref c, .int s.seed]) ∧ H c = some (.lst (s.cells.map V.int)) ∧ 0 ≤ s.seed ∧ s.seed < 2147483647
def mkD (K : PySem.W.Frag) (ts : List Addr) (hs c : Addr) : Sys DS where
  K := K
  hs := hs
  R := fun b => (b = hs ∨ b = c) ∨ b ∈ ts
  rel := fun s H => DRel hs c s H ∧ ∀ P ∈ ts, GxR.TabG H P
  frame := fun s H H' h k => ⟨⟨h.1.1, by rw [k hs (.inl (.inl rfl))]; exact h.1.2.1, by rw [k c (.inl (.inr rfl))]; exact h.1.2.2.1, h.1.2.2.2⟩, fun P hP => by
    obtain ⟨ps, e, z⟩ := h.2 P hP
    exact ⟨ps, by rw [k P (.inr hP)]; exact e, z⟩⟩
  isl := fun s H b h r => by
    rcases r with (rfl | rfl) | r
    · exact ⟨_, h.1.2.1⟩
    · exact ⟨_, h.1.2.2.1⟩
    · obtain ⟨ps, e, z⟩ := h.2 b r
      exact ⟨_, e⟩
theorem tabG_ext {Y : Sys S} {H H' : Hp} {P : Addr} (h : Ext Y H H') (t : GxR.TabG H P) : GxR.TabG H' P := by
  obtain ⟨ps, e, z⟩ := t
  rcases h P _ e with e1 | ⟨_, ⟨_, e1⟩, _⟩ | ⟨qs, more, e1, e2, t2⟩
  · exact ⟨ps, e1, z⟩
  · cases e1
  · cases e1
    exact ⟨_, e2, t2 z⟩
theorem tabP_mkD {K : PySem.W.Frag} {ts : List Addr} {P : Addr} (hP : P ∈ ts) : TabP (mkD K ts) P where
  has := fun a c s H r => r.2 P hP
  keep := fun a c s H H2 r t => by
    obtain ⟨ps, more, e1, _, e2, z, k⟩ := t
    have n1 : a ≠ P := by
      rintro rfl
      have := r.1.2.1
      rw [e1] at this; cases this
    have n2 : c ≠ P := by
      rintro rfl
      have := r.1.2.2.1
      rw [e1] at this; cases this
    refine ⟨⟨r.1.1, by rw [k a n1]; exact r.1.2.1, by rw [k c n2]; exact r.1.2.2.1, r.1.2.2.2⟩, fun P' hP' => ?_⟩
    by_cases q : P' = P
    · subst q
      exact ⟨_, e2, z⟩
    · obtain ⟨ps', e', z'⟩ := r.2 P' hP'
      exact ⟨ps', by rw [k P' q]; exact e', z'⟩
/-- the draw -/
def drawF (ws : List W) (s : DS) : Option (W × DS) := match ws with
  | [.st, .int m] => if 0 < m ∧ m < 1073741824 then some (.int (drw s m).1, (drw s m).2) else none
  | _ => none
mutual
/-- no drawing state within, lists of up to 1000, texts that are texts -/
def okE : W → Bool
  | .st => false
  | .tup l => decide (l.length ≤ 1000) && okEs l
  | .lst l => decide (l.length ≤ 1000) && okEs l
  | .str t => PyData.strOk t
  | _ => true
def okEs : List W → Bool
  | [] => true
  | w :: l => okE w && okEs l
end
mutual
def dep : W → Nat
  | .tup l => deps l + 1
  | .lst l => deps l + 1
  | _ => 0
def deps : List W → Nat
  | [] => 0
  | w :: l => max (dep w) (deps l)
end
open Classical in
/-- whether an answer is just what is due, asked to a depth -/
noncomputable def eqF : Nat → List W → DS → Option (W × DS)
  | 0, _, _ => none
  | j + 1, [a, b], s => if okE a = true ∧ okE b = true ∧ dep b ≤ j then some (.bl (decide (a = b)), s) else none
  | _ + 1, _, _ => none
noncomputable def baseF (x : Str) : List W → DS → Option (W × DS) := if x = "_law_draw" then drawF else if x = "_law_eq" then eqF 9 else fun _ _ => none
theorem drw_lt (s : DS) {m : Int} (h : 0 < m) : 0 ≤ (drw s m).1 ∧ (drw s m).1 < m := by
  unfold drw
  dsimp only
  cases stripz s.cells with
  | nil => exact ⟨Int.emod_nonneg _ (by omega), Int.emod_lt_of_pos _ h⟩
  | cons v r => exact ⟨Int.emod_nonneg _ (by omega), Int.emod_lt_of_pos _ h⟩
theorem drw_ok (s : DS) (m : Int) (h : 0 < m) : ∃ v s', drw s m = (v, s') ∧ 0 ≤ v ∧ v < m := ⟨_, _, rfl, drw_lt s h⟩
theorem stripz_cons {v : Int} {r : List Int} (h : v ≠ 0) : stripz (v :: r) = v :: r := by simp [stripz, h]
/-- the heap's lists of the drawing state written -/
theorem ext_write {K : PySem.W.Frag} {ts : List Addr} {hs c a : Addr} {H H' : Hp} {xs ys : List V} (h : Ext (mkD K ts hs c) H H') (r : a = hs ∨ a = c) (e : H' a = some (.lst xs)) : Ext (mkD K ts hs c) H (upd H' a (.lst ys)) := by
  intro b o hb
  by_cases n : b = a
  · subst n
    rcases h b o hb with e1 | ⟨r1, l, z⟩ | ⟨ps, more, e1, e2, _⟩
    · rw [e] at e1
      cases e1
      exact .inr (.inl ⟨.inl r, ⟨_, rfl⟩, ys, upd_same⟩)
    · exact .inr (.inl ⟨.inl r, l, ys, upd_same⟩)
    · rw [e] at e2; cases e2
  · rw [upd_ne n]
    exact h b o hb
/-- the state at a law's start -/
def seedOf (ns : List Int) (k : Int) : Int := ns.foldl (fun s c => (s * 31 + c) % 1000003) k
def absI (i : Int) : Int := if i < 0 then -i else i
theorem seedOf_lt : ∀ (ns : List Int) (k : Int), 0 ≤ k → k < 1000003 → 0 ≤ seedOf ns k ∧ seedOf ns k < 1000003
  | [], k, h, g => ⟨h, g⟩
  | c :: r, k, h, g => seedOf_lt r _ (Int.emod_nonneg _ (by decide)) (Int.emod_lt_of_pos _ (by decide))
def st0 (ns : List Int) : DS := ⟨ns.map absI, seedOf ns 7 + 1, fun c hc => by
  obtain ⟨x, _, rfl⟩ := List.mem_map.mp hc
  unfold absI
  split <;> omega, by
  have := seedOf_lt ns 7 (by decide) (by decide)
  omega⟩
theorem seedOf_take {ns : List Int} {i : Nat} {x k : Int} (h : ns[i]? = some x) : seedOf (ns.take (i + 1)) k = (seedOf (ns.take i) k * 31 + x) % 1000003 := by
  unfold seedOf
  rw [List.take_add_one, h, List.foldl_append]
  rfl
def spState (K : PySem.W.Frag) : Sp := fun vs H Q _ => ∃ (a : Addr) (ns : List Int), vs = [.ref a] ∧ SqL K H a (ns.map V.int) ∧ ns.length ≤ 63 ∧ ∀ H' hs c, Same H H' → H hs = none → H c = none → DRel hs c (st0 ns) H' → Q (.ref hs) H'
def spLaw (K : PySem.W.Frag) (ts : List Addr) : Sp := fun vs H Q _ => ∃ (a : Addr) (ns : List Int), vs = [.ref a] ∧ SqL K H a (ns.map V.int) ∧ ns.length ≤ 63 ∧ (∀ P ∈ ts, H P = some (.tbl #[])) ∧ ∀ H', Q (.bl true) H'
section
variable {F : Str → List W → DS → Option (W × DS)} {G : Str → Option W} {P : Program} {w : World} {K : PySem.W.Frag} {mg : Str → Option Value} {base : Heap}
/-- the law: its state, then the rest as the evaluator says -/
theorem law_fn {ts : List Addr} {T : Tab} (htb : T.tb = false) (TO : TabOk (mkD K ts) G K mg T) {k : Nat} (fns : ∀ g ∈ T.fl, Lib (mkD K ts) F P w K mg base k g) {d : FD} (hlk : d.look T = true) {p1 p2 p3 p4 p5 : Pos}
    (hb : defBody d.st = .Assign [.Name "state" p1] (.Call (.Name "_law_state" p2) [.Name "script" p3] [] p4) p5 :: d.b.ast) {N' : List Str} (hps : d.ps = (["script"] : List Str)) (hN : d.N = (("script" : Str) :: ("state" : Str) :: N' : List Str))
    {f fS : Addr} {fd fdS : FuncData} (FU : Fun K d.x d.x d.st f fd) (GS : FnOk P w K mg base CX0 k fS fdS ["script"] (spState K)) (bS : Binds K fdS ["script"] []) (gS : mg "_law_state" = some (.ref fS)) (kS : PySem.W.keepIn K (.ref fS) = true)
    (hsc : (glbB (defScope d.st) "_law_state" && visB (defScope d.st) "script" && locB (defScope d.st) "state") = true)
    (hev : ∀ ns : List Int, ∃ r, evSs F G d.b (.no :: .val .st :: List.replicate N'.length .no) (st0 ns) = some (.ret (.bl true), r)) : FnOk P w K mg base CX0 (k + 1) f fd ["script"] (spLaw K ts) := by
  obtain ⟨S, wf⟩ := FD.scope hlk
  rw [hps] at S
  simp only [Bool.and_eq_true] at hsc
  obtain ⟨⟨hg, hv⟩, hl⟩ := hsc
  refine FU.ok S (fun vs H Q E h => ?_) (fun cdv A outer s H vs Q E hr h => ?_)
  · obtain ⟨a, ns, rfl, _⟩ := h
    rfl
  · have C := cx_ok (E := E) (H := H) (outer := outer) (cd := cdv) (f := f) (qual := d.x) (scope := defScope d.st) (s := s) TO fns S.nd (fun z => by rw [htb] at z; cases z) hr
    have so : StOk (cxOf CX0 P w K mg base d.N d.x (defScope d.st) f cdv A outer s H E).nox (defScope d.st) := st_ok S.kind
    have i0 : d.N[0]? = some ("script" : Str) := by rw [hN]; rfl
    have i1 : d.N[1]? = some ("state" : Str) := by rw [hN]; rfl
    rw [hb]
    refine ⟨_, pss_cons (ps_set (i := 1) S.nd i1 (so.sc.loc _ hl).1 (pe_call GS hr (so.sc.glb _ hg) gS kS bS .nil pass0 (pa_cons (pv 0 i0 (so.sc.vis _ hv)) pa_nil)) (by rfl) (so.sc.loc _ hl).2) (sndSs d.b _ _ C so wf), ?_⟩
    obtain ⟨a, ns, rfl, hS, hlen, hT, q⟩ := h
    refine ⟨.ref a, by rw [hN]; rfl, a, ns, rfl, hS, hlen, fun H' hs c sm nh nc dr => ?_⟩
    obtain ⟨r, ev⟩ := hev ns
    have rl : (mkD K ts hs c).rel (st0 ns) H' := ⟨dr, fun P hP => ⟨#[], sm P _ (hT P hP), triples_nil⟩⟩
    refine ⟨hs, c, (mkD K ts hs c).R, H', fun _ _ => True, (mkD K ts hs c).R, _, st0 ns, _, fun _ _ _ _ _ _ => trivial, { er := ?_, sub := fun b h => h, new := fun b h => .inl h, ext := Ext.refl, own := fun i l b e _ => ?_, anc := trivial }, ev, ?_⟩
    · have en : (L2.start d.N [.ref a]).set 1 (some (.ref hs)) = some (.ref a) :: some (.ref hs) :: List.replicate N'.length none := by
        rw [hN]
        rfl
      rw [en]
      refine { len := by simp, sl := fun i w e => ?_, ow := fun i l e => ?_, dis := fun i j l m b e _ _ _ => ?_, rO := fun b h => h, dom := fun b h => (mkD K ts hs c).isl _ _ _ rl h, st := rl }
      · match i with
        | 0 => cases e
        | 1 =>
          cases e
          exact ⟨.ref hs, rfl, rfl⟩
        | i + 2 =>
          change (List.replicate N'.length Sl.no)[i]? = _ at e
          rw [List.getElem?_replicate] at e
          split at e <;> cases e
      · match i with
        | 0 => cases e
        | 1 => cases e
        | i + 2 =>
          change (List.replicate N'.length Sl.no)[i]? = _ at e
          rw [List.getElem?_replicate] at e
          split at e <;> cases e
      · match i with
        | 0 => cases e
        | 1 => cases e
        | i + 2 =>
          change (List.replicate N'.length Sl.no)[i]? = _ at e
          rw [List.getElem?_replicate] at e
          split at e <;> cases e
    · match i with
      | 0 => cases e
      | 1 => cases e
      | i + 2 =>
        change (List.replicate N'.length Sl.no)[i]? = _ at e
        rw [List.getElem?_replicate] at e
        split at e <;> cases e
    · intro v H2 x st rv
      have e : v = .bl true := rv
      rw [e]
      exact q H2
end
/-- a constant of the module: a tuple of ints, written -/
structure TupAt (K : PySem.W.Frag) (x : Str) (l : List Int) : Prop where
  ex : ∃ a : Addr, PySem.W.nsIn K mainGlobals x = some (some (.ref a)) ∧ ∃ o its n, List.lookup a K = some o ∧ o.cls = Value.type "tuple" ∧ o.data = Data.seq its n ∧ its.size ≤ sizeLine ∧ Vals (l.map V.int) its.toList
theorem TupAt.mk2 {K : PySem.W.Frag} {x : Str} {a : Addr} {i j : Int} {o : Obj} {its : Array Value} {n : Nat} (h1 : PySem.W.nsIn K mainGlobals x = some (some (.ref a))) (h2 : List.lookup a K = some o) (h3 : o.cls = Value.type "tuple") (h4 : o.data = Data.seq its n) (h5 : its.size ≤ sizeLine) (h6 : Vals [V.int i, V.int j] its.toList) : TupAt K x [i, j] :=
  ⟨a, h1, o, its, n, h2, h3, h4, h5, h6⟩
theorem TupAt.reps {Y : Sys DS} {O : Addr → Prop} {H : Hp} : ∀ (l : List Int), Reps Y O H (l.map W.int) (l.map V.int)
  | [] => rfl
  | i :: l => ⟨.int i, _, rfl, rfl, TupAt.reps l⟩
theorem TupAt.glb {ts : List Addr} {K : PySem.W.Frag} {x : Str} {l : List Int} (T : TupAt K x l) {h : Heap} {mg : Str → Option Value} {G : Str → Option W} (KX : K.In h) (GX : h.Ns mainGlobals mg) (hG : G x = some (.tup (l.map W.int))) : GlbOk (mkD K ts) G mg x := by
  obtain ⟨a, h1, o, its, n, h2⟩ := T.ex
  exact ⟨.ref a, .ref a, _, hG, PySem.W.mg_of KX GX h1, rfl, fun _ _ O H => ⟨a, l.map V.int, rfl, .inr ⟨o, its, n, h2⟩, TupAt.reps l⟩⟩
end MP

/-! TE: the end of a law some of whose defs hold generator expressions. -/
namespace MP
open PySem PySem.Spec PyProof.Rows L2
/-- where a def's code object and its table stand in the written part -/
structure TabOf (K : PySem.W.Frag) (y : Str) (c P : Addr) : Prop where
  ex : ∃ (f : Addr) (oc : Value) (od : Option Addr) (fd : FuncData) (osl : Array (Option Value)), PySem.W.nsIn K mainGlobals y = some (some (.ref f)) ∧ K.lookup f = some ⟨oc, od, .func fd, osl⟩ ∧ fd.code = .ref c
  hd : PySem.W.codeHdIn K c P = true
  out : K.lookup P = none
theorem TabOf.mk' {K : PySem.W.Frag} {y : Str} {c P f : Addr} {oc : Value} {od : Option Addr} {fd : FuncData} {osl : Array (Option Value)} (a : PySem.W.nsIn K mainGlobals y = some (some (.ref f))) (b : K.lookup f = some ⟨oc, od, .func fd, osl⟩) (e : fd.code = .ref c) (g : PySem.W.codeHdIn K c P = true) (n : K.lookup P = none) : TabOf K y c P :=
  ⟨⟨f, oc, od, fd, osl, a, b, e⟩, g, n⟩
theorem TabOf.mk3 {K : PySem.W.Frag} {h : Heap} {y : Str} {c P f : Addr} {oc : Value} {od : Option Addr} {fd : FuncData} {osl : Array (Option Value)} {ec : Value} {ed : Option Addr} {vs : Array Value} {sl : Array (Option Value)} (_ : K.In h) (a : PySem.W.nsIn K mainGlobals y = some (some (.ref f))) (b : K.lookup f = some ⟨oc, od, .func fd, osl⟩) (e : fd.code = .ref c)
    (_ : K.lookup c = some ⟨ec, ed, .fields vs, sl⟩) (_ : vs[11]? = some (.ref P)) (g : PySem.W.codeHdIn K c P = true) (n : K.lookup P = none) : TabOf K y c P :=
  ⟨⟨f, oc, od, fd, osl, a, b, e⟩, g, n⟩
theorem TabOf.def {K : PySem.W.Frag} {y : Str} {c P : Addr} (T : TabOf K y c P) : DefTab K y c := by
  obtain ⟨f, oc, od, fd, osl, a, b, e⟩ := T.ex
  refine ⟨f, a, fun oc' od' fd' osl' z => ?_⟩
  rw [b] at z
  cases z
  exact e
/-- what the top leaves of a def's table -/
def TabH (mg : Str → Option Value) (h : Heap) (y : Str) : Prop := ∃ a o fd c P, mg y = some (.ref a) ∧ h.get? a = some o ∧ o.data = .func fd ∧ fd.code = .ref c ∧ h.TableAt c P #[]
theorem tab_fact {K : PySem.W.Frag} {h : Heap} {mg : Str → Option Value} {y : Str} {c P : Addr} (KX : K.In h) (GX : h.Ns mainGlobals mg) (T : TabOf K y c P) (HT : TabH mg h y) :
    h.get? P = some { cls := .none, data := .fields #[] } ∧ PySem.W.CodeHd h c P := by
  have hd := PySem.W.codeHd_of_K KX T.hd
  refine ⟨?_, hd⟩
  obtain ⟨f, oc, od, fd, osl, a, b, e⟩ := T.ex
  obtain ⟨a1, o1, fd1, c1, P1, k1, k2, k3, k4, k5⟩ := HT
  have m := PySem.W.mg_of KX GX a
  rw [k1] at m
  cases m
  have g := KX _ _ b
  rw [k2] at g
  cases g
  cases k3
  rw [e] at k4
  cases k4
  obtain ⟨⟨o2, vs2, u1, u2, u3, u4⟩, u5⟩ := k5
  obtain ⟨o3, vs3, _, _, _, _, _, _, _, w1, w2, w3, w4, _⟩ := hd
  rw [u1] at w1
  cases w1
  rw [u3] at w3
  cases w3
  rw [u4] at w4
  cases w4
  exact u5
theorem walk_ofG {l : PySem.W.OpenLaw} {n k : Nat} {q : Program} {loose : List Str} {XP : (Str → Option Value) → Heap → Prop} {YP : World → Heap → Prop} {d : DefRec} {K : Params → PySem.W.Frag} {CX : World → CXT} {x : Str} (nms : List Str)
    (h1 : l.most = some n) (h2 : n ≤ sizeLine) (h3 : d.params.defaults = []) (h4 : Room k callerA) (h5 : (nms.all fun y => (recsOf q).any fun e => e.name == y) = true) (h6 : ∀ (w : World) (h : Heap), YP w h → (K w.params).In h)
    (h7 : ∀ (w : World) (mg : Str → Option Value) (fa : Addr) (h : Heap), (K w.params).In h → h.Ns mainGlobals mg → mg d.name = some (.ref fa) → (∀ y ∈ nms, TabH mg h y) → LamX.LawAtS l w (K w.params) (CX w) k n x mg fa h)
    (h8 : ∀ (w : World) (H : Hp) (s : Shared) (e : Value) (s' : Shared), CX w [] H s (fun _ _ _ => False) e s' → False) : PySem.W.WalkO q loose XP YP l.row.toRowW d [] (fun f vs => PySem.call f vs) := by
  refine Att.attach_callB h1 h3 fun w u0 u1 mg mb fa o pm cd doc a vs ns Gr Y ho hd hcd hmg hobj hints hlen hbits hgn => ?_
  have kx := h6 w _ Y
  have tabs : ∀ y ∈ nms, TabH mg u1.heap y := fun y hy => by
    obtain ⟨e, he, en⟩ := List.any_eq_true.mp (List.all_eq_true.mp h5 y hy)
    have en' : e.name = y := beq_iff_eq.mp en
    obtain ⟨a1, o1, fd1, c1, P1, k1, k2, k3, k4, _, k6⟩ := Gr.T.tab e he
    exact ⟨a1, o1, fd1, c1, P1, by rw [← en']; exact k1, k2, k3, k4, k6⟩
  obtain ⟨fd, cs, sp, t1, t2, t3, t4, t5, t6⟩ := h7 w mg fa _ kx Gr.T.g hmg tabs
  exact LamX.law_callTs kx Gr.T.g Gr.T.b Gr.T.builtins Gr.T.nolimit hgn t1 t2 t3 Gr.T.bmain hobj hints (Nat.le_trans hlen h2) h4 t6 t4 (fun H z1 z2 => t5 H a ns hlen hbits z1 z2) fun H e u' => h8 w H u1 e u'
theorem law_at {l : PySem.W.OpenLaw} {w : World} {K : PySem.W.Frag} {k : Nat} {mg : Str → Option Value} {fa : Addr} {h : Heap} {cs : List (Addr × Addr)} (KX : K.In h) (GX : h.Ns mainGlobals mg) (HT : ∀ p ∈ cs, ∃ y, TabOf K y p.1 p.2 ∧ TabH mg h y)
    (hF : ∃ fd : FuncData, (∀ (s : Shared) (v : Value), BindsTo s fd ⟨[v], []⟩ [("script", v)]) ∧ ∀ base : Heap, K.In base → base.Ns mainGlobals mg → (∀ p ∈ cs, GxR.TabB base mg p.1 p.2) → FnOk l.prog w K mg base CX0 k fa fd ["script"] (spLaw K (cs.map (·.2)))) :
    LamX.LawAtS l w K CX0 k 63 "script" mg fa h := by
  obtain ⟨fd, hb, hF⟩ := hF
  refine ⟨fd, cs, spLaw K (cs.map (·.2)), fun p hp => ?_, fun p hp => ?_, fun p hp => ?_, hb, fun H a ns hl _ hT hS => ⟨a, ns, rfl, hS, hl, fun P hP => ?_, fun _ => rfl⟩, fun b k g t => hF b k g fun p hp => ⟨(t p hp).code, (t p hp).bm, (t p hp).gP⟩⟩
  · obtain ⟨y, T, t⟩ := HT p hp
    exact (tab_fact KX GX T t).1
  · obtain ⟨y, T, t⟩ := HT p hp
    exact T.out
  · obtain ⟨y, T, t⟩ := HT p hp
    exact (tab_fact KX GX T t).2
  · obtain ⟨p, hp, rfl⟩ := List.mem_map.mp hP
    exact hT p hp
theorem law_at1 {l : PySem.W.OpenLaw} {w : World} {K : PySem.W.Frag} {k : Nat} {mg : Str → Option Value} {fa : Addr} {h : Heap} {y : Str} {c P : Addr} (KX : K.In h) (GX : h.Ns mainGlobals mg) (T : TabOf K y c P) (t : TabH mg h y)
    (hF : ∃ fd : FuncData, (∀ (s : Shared) (v : Value), BindsTo s fd ⟨[v], []⟩ [("script", v)]) ∧ ∀ base : Heap, K.In base → base.Ns mainGlobals mg → (∀ p ∈ [(c, P)], GxR.TabB base mg p.1 p.2) → FnOk l.prog w K mg base CX0 k fa fd ["script"] (spLaw K ([(c, P)].map (·.2)))) :
    LamX.LawAtS l w K CX0 k 63 "script" mg fa h :=
  law_at (cs := [(c, P)]) KX GX (fun p hp => by
    obtain rfl := List.mem_singleton.mp hp
    exact ⟨y, T, t⟩) hF
theorem law_at2 {l : PySem.W.OpenLaw} {w : World} {K : PySem.W.Frag} {k : Nat} {mg : Str → Option Value} {fa : Addr} {h : Heap} {y1 y2 : Str} {c1 P1 c2 P2 : Addr} (KX : K.In h) (GX : h.Ns mainGlobals mg) (T1 : TabOf K y1 c1 P1) (t1 : TabH mg h y1) (T2 : TabOf K y2 c2 P2) (t2 : TabH mg h y2)
    (hF : ∃ fd : FuncData, (∀ (s : Shared) (v : Value), BindsTo s fd ⟨[v], []⟩ [("script", v)]) ∧ ∀ base : Heap, K.In base → base.Ns mainGlobals mg → (∀ p ∈ [(c1, P1), (c2, P2)], GxR.TabB base mg p.1 p.2) → FnOk l.prog w K mg base CX0 k fa fd ["script"] (spLaw K ([(c1, P1), (c2, P2)].map (·.2)))) :
    LamX.LawAtS l w K CX0 k 63 "script" mg fa h :=
  law_at (cs := [(c1, P1), (c2, P2)]) KX GX (fun p hp => by
    simp only [List.mem_cons, List.not_mem_nil, or_false] at hp
    rcases hp with rfl | rfl
    · exact ⟨y1, T1, t1⟩
    · exact ⟨y2, T2, t2⟩) hF
theorem no_tabs {l : PySem.W.OpenLaw} {w : World} {K : PySem.W.Frag} {k : Nat} {mg : Str → Option Value} {fa : Addr} {B : FuncData → Prop} (hF : ∃ fd : FuncData, B fd ∧ ∀ base : Heap, K.In base → base.Ns mainGlobals mg → (∀ p ∈ ([] : List (Addr × Addr)), GxR.TabB base mg p.1 p.2) → FnOk l.prog w K mg base CX0 k fa fd ["script"] (spLaw K (([] : List (Addr × Addr)).map (·.2)))) :
    ∃ fd : FuncData, B fd ∧ ∀ base : Heap, K.In base → base.Ns mainGlobals mg → FnOk l.prog w K mg base CX0 k fa fd ["script"] (spLaw K []) :=
  let ⟨fd, hb, hF⟩ := hF
  ⟨fd, hb, fun b x g => hF b x g fun p hp => absurd hp (by simp)⟩
end MP

/-! RT: fractions as values. -/
namespace MP
open PySem PySem.Spec PyProof.Rows L2

/-! ### equality of plain values -/
mutual
def plD : W → Nat → Bool
  | .non, _ => true
  | .int _, _ => true
  | .str x, _ => PyData.canLay0 (.str x)
  | .tup l, n + 1 => plDs l n
  | .lst l, n + 1 => plDs l n
  | _, _ => false
def plDs : List W → Nat → Bool
  | [], _ => true
  | w :: l, n => plD w n && plDs l n
end
mutual
theorem plD_ok : ∀ (w : W) (n : Nat), plD w n = true → noSt w = true ∧ (toD w).canLay0 = true ∧ (toD w).depth ≤ n
  | .non, n, _ => by simp [noSt, toD, PyData.canLay0, PyData.depth]
  | .int _, n, _ => by simp [noSt, toD, PyData.canLay0, PyData.depth]
  | .bl _, n, h => by simp [plD] at h
  | .str x, n, h => by
    have h' : PyData.canLay0 (.str x) = true := by simpa [plD] using h
    simp [noSt, toD, h', PyData.depth]
  | .st, n, h => by simp [plD] at h
  | .tup l, 0, h => by simp [plD] at h
  | .lst l, 0, h => by simp [plD] at h
  | .tup l, n + 1, h => by
    have := plDs_ok l n (by simpa [plD] using h)
    simp [noSt, toD, PyData.canLay0, PyData.depth, this]
  | .lst l, n + 1, h => by
    have := plDs_ok l n (by simpa [plD] using h)
    simp [noSt, toD, PyData.canLay0, PyData.depth, this]
theorem plDs_ok : ∀ (l : List W) (n : Nat), plDs l n = true → noSts l = true ∧ PyData.canLayAll0 (toDs l) = true ∧ PyData.depthAll (toDs l) ≤ n
  | [], n, _ => by simp [noSts, toDs, PyData.canLayAll0, PyData.depthAll]
  | w :: l, n, h => by
    simp only [plDs, Bool.and_eq_true] at h
    have h1 := plD_ok w n h.1
    have h2 := plDs_ok l n h.2
    simp [noSts, toDs, PyData.canLayAll0, PyData.depthAll, h1, h2]
    try omega
end
mutual
theorem eqv_pl : ∀ (a b : W) (n m : Nat), plD a n = true → plD b m = true → (PyData.eqv (toD a) (toD b) = true ↔ a = b)
  | .non, b, n, m, _, hb => by cases b <;> simp_all [toD, PyData.eqv, plD]
  | .int i, b, n, m, _, hb => by cases b <;> simp_all [toD, PyData.eqv, plD]
  | .bl _, b, n, m, h, _ => by simp [plD] at h
  | .str x, b, n, m, _, hb => by cases b <;> simp_all [toD, PyData.eqv, plD]
  | .st, b, n, m, h, _ => by simp [plD] at h
  | .tup l, b, 0, m, h, _ => by simp [plD] at h
  | .lst l, b, 0, m, h, _ => by simp [plD] at h
  | .tup l, b, n + 1, m, ha, hb => by
    cases b with
    | tup k =>
      cases m with
      | zero => simp [plD] at hb
      | succ m =>
        have := eqvs_pl l k n m (by simpa [plD] using ha) (by simpa [plD] using hb)
        simp [toD, PyData.eqv, this]
    | _ => simp_all [toD, PyData.eqv, plD]
  | .lst l, b, n + 1, m, ha, hb => by
    cases b with
    | lst k =>
      cases m with
      | zero => simp [plD] at hb
      | succ m =>
        have := eqvs_pl l k n m (by simpa [plD] using ha) (by simpa [plD] using hb)
        simp [toD, PyData.eqv, this]
    | _ => simp_all [toD, PyData.eqv, plD]
theorem eqvs_pl : ∀ (a b : List W) (n m : Nat), plDs a n = true → plDs b m = true → (PyData.eqvAll (toDs a) (toDs b) = true ↔ a = b)
  | [], b, n, m, _, hb => by cases b <;> simp [toDs, PyData.eqvAll]
  | x :: l, b, n, m, ha, hb => by
    cases b with
    | nil => simp [toDs, PyData.eqvAll]
    | cons y k =>
      simp only [plDs, Bool.and_eq_true] at ha hb
      have h1 := eqv_pl x y n m ha.1 hb.1
      have h2 := eqvs_pl l k n m ha.2 hb.2
      simp [toDs, PyData.eqvAll, h1, h2]
end
open Classical in
theorem eqW_pl {a b : W} (ha : plD a 60 = true) (hb : plD b 60 = true) : eqW a b = some (decide (a = b)) := by
  have h1 := plD_ok a 60 ha
  have h2 := plD_ok b 60 hb
  have c1 : cmpable a = true := by
    unfold cmpable SeqAt.shaped
    simp [h1]; omega
  have c2 : cmpable b = true := by
    unfold cmpable SeqAt.shaped
    simp [h2]; omega
  unfold eqW
  rw [c1, c2]
  simp only [Bool.and_self, if_true]
  congr 1
  rw [Bool.eq_iff_iff, eqv_pl a b 60 60 ha hb, decide_eq_true_iff]

/-! ### with bools: a bool is its number -/
def nbI (b : Bool) : Int := if b then 1 else 0
theorem nbI_inj {a b : Bool} : (nbI a = nbI b) = (a = b) := by cases a <;> cases b <;> simp [nbI]
mutual
def nb : W → W
  | .bl b => .int (nbI b)
  | .tup l => .tup (nbs l)
  | .lst l => .lst (nbs l)
  | w => w
def nbs : List W → List W
  | [] => []
  | w :: l => nb w :: nbs l
end
mutual
def plB : W → Nat → Bool
  | .non, _ => true
  | .int _, _ => true
  | .bl _, _ => true
  | .str x, _ => PyData.canLay0 (.str x)
  | .tup l, n + 1 => plBs l n
  | .lst l, n + 1 => plBs l n
  | _, _ => false
def plBs : List W → Nat → Bool
  | [], _ => true
  | w :: l, n => plB w n && plBs l n
end
mutual
theorem plB_ok : ∀ (w : W) (n : Nat), plB w n = true → noSt w = true ∧ (toD w).canLay0 = true ∧ (toD w).depth ≤ n
  | .non, n, _ => by simp [noSt, toD, PyData.canLay0, PyData.depth]
  | .int _, n, _ => by simp [noSt, toD, PyData.canLay0, PyData.depth]
  | .bl _, n, h => by simp [noSt, toD, PyData.canLay0, PyData.depth]
  | .str x, n, h => by
    have h' : PyData.canLay0 (.str x) = true := by simpa [plB] using h
    simp [noSt, toD, h', PyData.depth]
  | .st, n, h => by simp [plB] at h
  | .tup l, 0, h => by simp [plB] at h
  | .lst l, 0, h => by simp [plB] at h
  | .tup l, n + 1, h => by
    have := plBs_ok l n (by simpa [plB] using h)
    simp [noSt, toD, PyData.canLay0, PyData.depth, this]
  | .lst l, n + 1, h => by
    have := plBs_ok l n (by simpa [plB] using h)
    simp [noSt, toD, PyData.canLay0, PyData.depth, this]
theorem plBs_ok : ∀ (l : List W) (n : Nat), plBs l n = true → noSts l = true ∧ PyData.canLayAll0 (toDs l) = true ∧ PyData.depthAll (toDs l) ≤ n
  | [], n, _ => by simp [noSts, toDs, PyData.canLayAll0, PyData.depthAll]
  | w :: l, n, h => by
    simp only [plBs, Bool.and_eq_true] at h
    have h1 := plB_ok w n h.1
    have h2 := plBs_ok l n h.2
    simp [noSts, toDs, PyData.canLayAll0, PyData.depthAll, h1, h2]
    try omega
end
mutual
theorem eqv_pb : ∀ (a b : W) (n m : Nat), plB a n = true → plB b m = true → (PyData.eqv (toD a) (toD b) = true ↔ nb a = nb b)
  | .non, b, n, m, _, hb => by cases b <;> simp_all [toD, PyData.eqv, plB, nb]
  | .int i, b, n, m, _, hb => by cases b <;> simp_all [toD, PyData.eqv, plB, nb, nbI]
  | .bl c, b, n, m, h, hb => by cases c <;> cases b <;> simp_all [toD, PyData.eqv, plB, nb, nbI]
  | .str x, b, n, m, _, hb => by cases b <;> simp_all [toD, PyData.eqv, plB, nb]
  | .st, b, n, m, h, _ => by simp [plB] at h
  | .tup l, b, 0, m, h, _ => by simp [plB] at h
  | .lst l, b, 0, m, h, _ => by simp [plB] at h
  | .tup l, b, n + 1, m, ha, hb => by
    cases b with
    | tup k =>
      cases m with
      | zero => simp [plB] at hb
      | succ m =>
        have := eqvs_pb l k n m (by simpa [plB] using ha) (by simpa [plB] using hb)
        simp [toD, PyData.eqv, this, nb]
    | _ => simp_all [toD, PyData.eqv, plB, nb]
  | .lst l, b, n + 1, m, ha, hb => by
    cases b with
    | lst k =>
      cases m with
      | zero => simp [plB] at hb
      | succ m =>
        have := eqvs_pb l k n m (by simpa [plB] using ha) (by simpa [plB] using hb)
        simp [toD, PyData.eqv, this, nb]
    | _ => simp_all [toD, PyData.eqv, plB, nb]
theorem eqvs_pb : ∀ (a b : List W) (n m : Nat), plBs a n = true → plBs b m = true → (PyData.eqvAll (toDs a) (toDs b) = true ↔ nbs a = nbs b)
  | [], b, n, m, _, hb => by cases b <;> simp [toDs, PyData.eqvAll, nbs]
  | x :: l, b, n, m, ha, hb => by
    cases b with
    | nil => simp [toDs, PyData.eqvAll, nbs]
    | cons y k =>
      simp only [plBs, Bool.and_eq_true] at ha hb
      have h1 := eqv_pb x y n m ha.1 hb.1
      have h2 := eqvs_pb l k n m ha.2 hb.2
      simp [toDs, PyData.eqvAll, h1, h2, nbs]
end
open Classical in
theorem eqW_pb {a b : W} (ha : plB a 60 = true) (hb : plB b 60 = true) : eqW a b = some (decide (nb a = nb b)) := by
  have h1 := plB_ok a 60 ha
  have h2 := plB_ok b 60 hb
  have c1 : cmpable a = true := by
    unfold cmpable SeqAt.shaped
    simp [h1]; omega
  have c2 : cmpable b = true := by
    unfold cmpable SeqAt.shaped
    simp [h2]; omega
  unfold eqW
  rw [c1, c2]
  simp only [Bool.and_self, if_true]
  congr 1
  rw [Bool.eq_iff_iff, eqv_pb a b 60 60 ha hb, decide_eq_true_iff]

/-! ### fractions -/
def fr (x : Rat) : W := .tup [.int x.num, .int x.den]
theorem fr_inj {x y : Rat} : fr x = fr y ↔ x = y := by
  unfold fr
  constructor
  · intro h
    injection h with h
    injection h with h1 h2
    injection h2 with h2 _
    injection h1 with h1
    injection h2 with h2
    exact Rat.ext h1 (by omega)
  · intro h; rw [h]
theorem plD_fr (x : Rat) (n : Nat) : plD (fr x) (n + 1) = true := rfl
theorem idx_fr0 (x : Rat) : idxW (fr x) (.int 0) = some (.int x.num) := rfl
theorem idx_fr1 (x : Rat) : idxW (fr x) (.int 1) = some (.int x.den) := rfl
theorem tup_fr (i : Int) : W.tup [.int i, .int 1] = fr (i : Rat) := rfl
theorem divInt_pos {p q : Int} (h : 0 < q) : ((p : Rat) / (q : Rat)).num = p / (Nat.gcd p.natAbs q.natAbs : Nat) ∧ (((p : Rat) / (q : Rat)).den : Int) = q / (Nat.gcd p.natAbs q.natAbs : Nat) := by
  obtain ⟨n, rfl⟩ : ∃ n : Nat, q = (n : Int) := ⟨q.toNat, by omega⟩
  have hn : n ≠ 0 := by omega
  have e : ((p : Rat) / ((n : Int) : Rat)) = Rat.normalize p n hn := by
    rw [← Rat.divInt_eq_div, Rat.divInt_ofNat]
    rw [mkRat, dif_neg hn]
  rw [e, Rat.normalize_eq]
  simp
theorem div_negs (p q : Int) : ((p : Rat) / (q : Rat)) = ((-p : Int) : Rat) / ((-q : Int) : Rat) := by
  grind
theorem gcd_pos {p q : Int} (h : q ≠ 0) : 0 < Nat.gcd p.natAbs q.natAbs := Nat.gcd_pos_of_pos_right _ (by omega)
theorem gcd_dvd (p q : Int) : ((Nat.gcd p.natAbs q.natAbs : Nat) : Int) ∣ p ∧ ((Nat.gcd p.natAbs q.natAbs : Nat) : Int) ∣ q :=
  ⟨Int.ofNat_dvd_left.mpr (Nat.gcd_dvd_left _ _), Int.ofNat_dvd_left.mpr (Nat.gcd_dvd_right _ _)⟩
theorem fdiv_nn {i j : Int} (h : 0 < j) : i.fdiv j = i / j := Int.fdiv_eq_ediv_of_nonneg i (by omega)
theorem fdiv_ng {i j : Int} (h : 0 < j) (d : j ∣ i) : i.fdiv (-j) = (-i) / j := by
  obtain ⟨k, rfl⟩ := d
  have hj : j ≠ 0 := by omega
  rw [show -(j * k) = j * (-k) by grind, Int.mul_ediv_cancel_left _ hj]
  rw [show j * k = (-j) * (-k) by grind]
  exact Int.mul_fdiv_cancel_left _ (by omega)
/-- in lowest terms -/
theorem low_pos {p q : Int} (h : 0 < q) : W.tup [.int (p.fdiv (Nat.gcd p.natAbs q.natAbs : Nat)), .int (q.fdiv (Nat.gcd p.natAbs q.natAbs : Nat))] = fr ((p : Rat) / (q : Rat)) := by
  obtain ⟨h1, h2⟩ := divInt_pos (p := p) h
  have g := gcd_pos (p := p) (q := q) (by omega)
  unfold fr
  rw [h1, h2, fdiv_nn (by omega), fdiv_nn (by omega)]
theorem low_neg {p q : Int} (h : q < 0) : W.tup [.int (p.fdiv (-(Nat.gcd p.natAbs q.natAbs : Nat))), .int (q.fdiv (-(Nat.gcd p.natAbs q.natAbs : Nat)))] = fr ((p : Rat) / (q : Rat)) := by
  rw [div_negs]
  obtain ⟨h1, h2⟩ := divInt_pos (p := -p) (q := -q) (by omega)
  have g := gcd_pos (p := p) (q := q) (by omega)
  obtain ⟨d1, d2⟩ := gcd_dvd p q
  unfold fr
  rw [h1, h2, fdiv_ng (by omega) d1, fdiv_ng (by omega) d2, Int.natAbs_neg, Int.natAbs_neg]
theorem low_neg' {p q : Int} (h : q < 0) : W.tup [.int ((-p).fdiv (Nat.gcd p.natAbs q.natAbs : Nat)), .int ((-q).fdiv (Nat.gcd p.natAbs q.natAbs : Nat))] = fr ((p : Rat) / (q : Rat)) := by
  rw [div_negs, ← low_pos (p := -p) (q := -q) (by omega), Int.natAbs_neg, Int.natAbs_neg]

theorem fmod_lt (p : Int) {q : Int} (h : q ≠ 0) : (p.fmod q).natAbs < q.natAbs := by
  by_cases hq : 0 < q
  · have h1 := Int.fmod_nonneg_of_pos p hq
    have h2 := Int.fmod_lt_of_pos p hq
    omega
  · have e : p.fmod q = -((-p).fmod (-q)) := by rw [Int.neg_fmod_neg]; omega
    have h1 := Int.fmod_nonneg_of_pos (-p) (b := -q) (by omega)
    have h2 := Int.fmod_lt_of_pos (-p) (b := -q) (by omega)
    omega
theorem gcd_fmod (p : Int) {q : Int} (h : q ≠ 0) : Nat.gcd q.natAbs (p.fmod q).natAbs = Nat.gcd p.natAbs q.natAbs := by
  have e : p.fmod q = p + q * (-(p.fdiv q)) := by
    have := Int.mul_fdiv_add_fmod p q
    grind
  show Int.gcd q (p.fmod q) = Int.gcd p q
  rw [e, Int.gcd_add_mul_left_right, Int.gcd_comm]
/-! ### sizes -/
class SzI (i : Int) (n : outParam Nat) : Prop where
  lt : i.natAbs < 2 ^ n
class Sz (x : Rat) (n : outParam Nat) : Prop where
  num : x.num.natAbs < 2 ^ n
  den : x.den < 2 ^ n
theorem SzI.mono {i : Int} {n m : Nat} (h : SzI i n) (l : n ≤ m) : SzI i m := ⟨Nat.lt_of_lt_of_le h.lt (Nat.pow_le_pow_right (by decide) l)⟩
theorem Sz.mono {x : Rat} {n m : Nat} (h : Sz x n) (l : n ≤ m) : Sz x m := ⟨Nat.lt_of_lt_of_le h.num (Nat.pow_le_pow_right (by decide) l), Nat.lt_of_lt_of_le h.den (Nat.pow_le_pow_right (by decide) l)⟩
instance {x : Rat} {n : Nat} [h : Sz x n] : SzI x.num n := ⟨h.num⟩
instance {x : Rat} {n : Nat} [h : Sz x n] : SzI (x.den : Int) n := ⟨h.den⟩
instance (k : Nat) : SzI (no_index (OfNat.ofNat k : Int)) k := ⟨by
  show k < 2 ^ k
  exact Nat.lt_two_pow_self⟩
theorem lt_mul2 {a b n m : Nat} (h : a < 2 ^ n) (g : b < 2 ^ m) : a * b < 2 ^ (n + m) := by
  rw [Nat.pow_add]
  by_cases hb : b = 0
  · rw [hb, Nat.mul_zero]; exact Nat.mul_pos (Nat.two_pow_pos _) (Nat.two_pow_pos _)
  · exact Nat.mul_lt_mul_of_lt_of_le h (by omega) (Nat.two_pow_pos _)
theorem lt_add2 {a b n m : Nat} (h : a < 2 ^ n) (g : b < 2 ^ m) : a + b < 2 ^ (n + m + 1) := by
  have h1 : 2 ^ n ≤ 2 ^ (n + m) := Nat.pow_le_pow_right (by decide) (by omega)
  have h2 : 2 ^ m ≤ 2 ^ (n + m) := Nat.pow_le_pow_right (by decide) (by omega)
  rw [Nat.pow_succ]; omega
instance {i j : Int} {n m : Nat} [h : SzI i n] [g : SzI j m] : SzI (i * j) (n + m) := ⟨by rw [Int.natAbs_mul]; exact lt_mul2 h.lt g.lt⟩
instance {i j : Int} {n m : Nat} [h : SzI i n] [g : SzI j m] : SzI (i + j) (n + m + 1) := ⟨Nat.lt_of_le_of_lt (Int.natAbs_add_le i j) (lt_add2 h.lt g.lt)⟩
instance {i j : Int} {n m : Nat} [h : SzI i n] [g : SzI j m] : SzI (i - j) (n + m + 1) := ⟨Nat.lt_of_le_of_lt (Int.natAbs_sub_le i j) (lt_add2 h.lt g.lt)⟩
instance {i : Int} {n : Nat} [h : SzI i n] : SzI (-i) n := ⟨by rw [Int.natAbs_neg]; exact h.lt⟩
theorem log2_le {a n : Nat} (h : a < 2 ^ n) : a.log2 ≤ n := by
  by_cases h0 : a = 0
  · rw [h0]; simp
  · exact Nat.le_of_lt ((Nat.log2_lt h0).mpr h)
theorem okMul_of {i j : Int} {n m : Nat} [h : SzI i n] [g : SzI j m] (l : n + m < 1000000) : okMul i j := by
  unfold okMul
  have h1 := log2_le h.lt
  have h2 := log2_le g.lt
  omega
theorem okDiv_lt {i j : Int} {n : Nat} (hj : j ≠ 0) (h : j.natAbs < 2 ^ n) (l : n < 9000) : okDiv i j := ⟨hj, PyProof.noPylong_of_log2 (Nat.lt_of_le_of_lt (log2_le h) l)⟩
theorem okDiv_of {i j : Int} {n : Nat} [h : SzI j n] (hj : j ≠ 0) (l : n < 9000) : okDiv i j := okDiv_lt hj h.lt l
theorem okDiv_gcd {p q : Int} {n : Nat} [h : SzI q n] (hq : q ≠ 0) (l : n < 9000) (i : Int) : okDiv i (Nat.gcd p.natAbs q.natAbs : Nat) ∧ okDiv i (-(Nat.gcd p.natAbs q.natAbs : Nat)) := by
  have g := gcd_pos (p := p) hq
  have d : Nat.gcd p.natAbs q.natAbs ≤ q.natAbs := Nat.le_of_dvd (by omega) (Nat.gcd_dvd_right _ _)
  have hl := h.lt
  refine ⟨okDiv_lt (n := n) (by omega) (by simp only [Int.natAbs_natCast]; omega) l, okDiv_lt (n := n) (by omega) (by simp only [Int.natAbs_neg, Int.natAbs_natCast]; omega) l⟩
theorem sz_pos {p q : Int} {n : Nat} (h : 0 < q) (h1 : p.natAbs < 2 ^ n) (h2 : q.natAbs < 2 ^ n) : Sz ((p : Rat) / (q : Rat)) n := by
  obtain ⟨e1, e2⟩ := divInt_pos (p := p) h
  refine ⟨?_, ?_⟩
  · rw [e1, Int.natAbs_ediv_of_dvd (gcd_dvd p q).1]
    exact Nat.lt_of_le_of_lt (Nat.div_le_self _ _) h1
  · have : (((p : Rat) / (q : Rat)).den : Int).natAbs < 2 ^ n := by
      rw [e2, Int.natAbs_ediv_of_dvd (gcd_dvd p q).2]
      exact Nat.lt_of_le_of_lt (Nat.div_le_self _ _) h2
    simpa using this
theorem sz_div {p q : Int} {n : Nat} (h : q ≠ 0) (h1 : p.natAbs < 2 ^ n) (h2 : q.natAbs < 2 ^ n) : Sz ((p : Rat) / (q : Rat)) n := by
  by_cases hq : 0 < q
  · exact sz_pos hq h1 h2
  · rw [div_negs]
    exact sz_pos (by omega) (by rw [Int.natAbs_neg]; exact h1) (by rw [Int.natAbs_neg]; exact h2)
theorem den_ne (a : Rat) : (a.den : Int) ≠ 0 := by have := a.den_pos; omega
theorem rat_num (a : Rat) : a = (a.num : Rat) / ((a.den : Int) : Rat) := by
  rw [← Rat.divInt_eq_div, Rat.num_divInt_den]
theorem den_ne' (a : Rat) : ((a.den : Int) : Rat) ≠ 0 := by
  have := den_ne a
  intro h
  exact this (by exact_mod_cast h)
theorem q_add (a b : Rat) : ((a.num * b.den + b.num * a.den : Int) : Rat) / ((a.den * b.den : Int) : Rat) = a + b := by
  have h1 := rat_num a; have h2 := rat_num b; have h3 := den_ne' a; have h4 := den_ne' b
  simp only [Rat.intCast_mul, Rat.intCast_add, Rat.intCast_sub]
  generalize (a.num : Rat) = an at *; generalize ((a.den : Int) : Rat) = ad at *; generalize (b.num : Rat) = bn at *; generalize ((b.den : Int) : Rat) = bd at *
  grind
theorem q_sub (a b : Rat) : ((a.num * b.den - b.num * a.den : Int) : Rat) / ((a.den * b.den : Int) : Rat) = a - b := by
  have h1 := rat_num a; have h2 := rat_num b; have h3 := den_ne' a; have h4 := den_ne' b
  simp only [Rat.intCast_mul, Rat.intCast_add, Rat.intCast_sub]
  generalize (a.num : Rat) = an at *; generalize ((a.den : Int) : Rat) = ad at *; generalize (b.num : Rat) = bn at *; generalize ((b.den : Int) : Rat) = bd at *
  grind
theorem q_mul (a b : Rat) : ((a.num * b.num : Int) : Rat) / ((a.den * b.den : Int) : Rat) = a * b := by
  have h1 := rat_num a; have h2 := rat_num b; have h3 := den_ne' a; have h4 := den_ne' b
  simp only [Rat.intCast_mul, Rat.intCast_add, Rat.intCast_sub]
  generalize (a.num : Rat) = an at *; generalize ((a.den : Int) : Rat) = ad at *; generalize (b.num : Rat) = bn at *; generalize ((b.den : Int) : Rat) = bd at *
  grind
theorem q_div (a b : Rat) : ((a.num * b.den : Int) : Rat) / ((a.den * b.num : Int) : Rat) = a / b := by
  have h1 := rat_num a; have h2 := rat_num b; have h3 := den_ne' a; have h4 := den_ne' b
  simp only [Rat.intCast_mul, Rat.intCast_add, Rat.intCast_sub]
  generalize (a.num : Rat) = an at *; generalize ((a.den : Int) : Rat) = ad at *; generalize (b.num : Rat) = bn at *; generalize ((b.den : Int) : Rat) = bd at *
  grind
theorem q_add' (a b : Rat) : ((a.num : Rat) * ((b.den : Int) : Rat) + (b.num : Rat) * ((a.den : Int) : Rat)) / (((a.den : Int) : Rat) * ((b.den : Int) : Rat)) = a + b := by
  have := q_add a b
  simpa only [Rat.intCast_mul, Rat.intCast_add, Rat.intCast_sub] using this
theorem q_sub' (a b : Rat) : ((a.num : Rat) * ((b.den : Int) : Rat) - (b.num : Rat) * ((a.den : Int) : Rat)) / (((a.den : Int) : Rat) * ((b.den : Int) : Rat)) = a - b := by
  have := q_sub a b
  simpa only [Rat.intCast_mul, Rat.intCast_add, Rat.intCast_sub] using this
theorem q_mul' (a b : Rat) : ((a.num : Rat) * (b.num : Rat)) / (((a.den : Int) : Rat) * ((b.den : Int) : Rat)) = a * b := by
  have := q_mul a b
  simpa only [Rat.intCast_mul, Rat.intCast_add, Rat.intCast_sub] using this
theorem q_div' (a b : Rat) : ((a.num : Rat) * ((b.den : Int) : Rat)) / (((a.den : Int) : Rat) * (b.num : Rat)) = a / b := by
  have := q_div a b
  simpa only [Rat.intCast_mul, Rat.intCast_add, Rat.intCast_sub] using this
theorem num_ne {a : Rat} (h : a ≠ 0) : a.num ≠ 0 := fun e => h (by rw [← Rat.num_eq_zero]; exact e)
theorem den2 (a b : Rat) : (a.den * b.den : Int) ≠ 0 := Int.mul_ne_zero (den_ne a) (den_ne b)
instance {a b : Rat} {n m : Nat} [h : Sz a n] [g : Sz b m] : Sz (a + b) (n + m + 1) := by
  rw [← q_add]
  refine sz_div (den2 a b) ?_ ?_
  · refine Nat.lt_of_le_of_lt (Int.natAbs_add_le _ _) ?_
    have h1 := (inferInstance : SzI (a.num * b.den) (n + m)).lt
    have h2 := (inferInstance : SzI (b.num * a.den) (m + n)).lt
    rw [Nat.add_comm m n] at h2
    rw [Nat.pow_succ]; omega
  · have h1 := (inferInstance : SzI (a.den * b.den : Int) (n + m)).lt
    rw [Nat.pow_succ]; omega
instance {a b : Rat} {n m : Nat} [h : Sz a n] [g : Sz b m] : Sz (a - b) (n + m + 1) := by
  rw [← q_sub]
  refine sz_div (den2 a b) ?_ ?_
  · refine Nat.lt_of_le_of_lt (Int.natAbs_sub_le _ _) ?_
    have h1 := (inferInstance : SzI (a.num * b.den) (n + m)).lt
    have h2 := (inferInstance : SzI (b.num * a.den) (m + n)).lt
    rw [Nat.add_comm m n] at h2
    rw [Nat.pow_succ]; omega
  · have h1 := (inferInstance : SzI (a.den * b.den : Int) (n + m)).lt
    rw [Nat.pow_succ]; omega
instance {a b : Rat} {n m : Nat} [h : Sz a n] [g : Sz b m] : Sz (a * b) (n + m) := by
  rw [← q_mul]
  exact sz_div (den2 a b) (inferInstance : SzI (a.num * b.num) (n + m)).lt (inferInstance : SzI (a.den * b.den : Int) (n + m)).lt
theorem one_lt {n : Nat} {x : Rat} (h : Sz x n) : 1 < 2 ^ n := Nat.lt_of_le_of_lt x.den_pos h.den
instance {a b : Rat} {n m : Nat} [h : Sz a n] [g : Sz b m] : Sz (a / b) (n + m) := by
  by_cases hb : b = 0
  · rw [hb, Rat.div_def, Rat.inv_zero, Rat.mul_zero]
    have := one_lt h
    have l : 2 ^ n ≤ 2 ^ (n + m) := Nat.pow_le_pow_right (by decide) (by omega)
    exact ⟨by show 0 < _; omega, by show 1 < _; omega⟩
  · rw [← q_div]
    exact sz_div (Int.mul_ne_zero (den_ne a) (num_ne hb)) (inferInstance : SzI (a.num * b.den) (n + m)).lt (inferInstance : SzI (a.den * b.num : Int) (n + m)).lt
instance {a : Rat} {n : Nat} [h : Sz a n] : Sz (-a) n := ⟨by rw [Rat.neg_num, Int.natAbs_neg]; exact h.num, by rw [Rat.neg_den]; exact h.den⟩
instance {i : Int} {n : Nat} [h : SzI i n] : Sz (i : Rat) (n + 1) := ⟨by
  rw [Rat.num_intCast, Nat.pow_succ]; have := h.lt; omega, by
  rw [Rat.den_intCast, Nat.pow_succ]; have := h.lt; omega⟩
instance (k : Nat) : Sz (no_index (OfNat.ofNat k : Rat)) (k + 1) := ⟨by
  rw [Rat.num_ofNat, Nat.pow_succ]; have := Nat.lt_two_pow_self (n := k); show k < _; omega, by
  rw [Rat.den_ofNat, Nat.pow_succ]; have := Nat.lt_two_pow_self (n := k); omega⟩
theorem sz_of {i : Int} {n : Nat} (h : -(2 ^ n) < i) (g : i < 2 ^ n) : SzI i n := ⟨by
  have e : ((2 ^ n : Nat) : Int) = 2 ^ n := by simp
  omega⟩
instance (priority := high) : SzI (0 : Int) 1 := ⟨by decide⟩
instance (priority := high) : Sz (0 : Rat) 1 := ⟨by decide, by decide⟩
instance (priority := high) : SzI (1 : Int) 1 := ⟨by decide⟩
instance (priority := high) : Sz (1 : Rat) 1 := ⟨by decide, by decide⟩
instance (priority := high) : SzI (2 : Int) 2 := ⟨by decide⟩
instance (priority := high) : Sz (2 : Rat) 2 := ⟨by decide, by decide⟩
instance (priority := high) : SzI (3 : Int) 2 := ⟨by decide⟩
instance (priority := high) : Sz (3 : Rat) 2 := ⟨by decide, by decide⟩
instance (priority := high) : SzI (4 : Int) 3 := ⟨by decide⟩
instance (priority := high) : Sz (4 : Rat) 3 := ⟨by decide, by decide⟩
instance (priority := high) : SzI (5 : Int) 3 := ⟨by decide⟩
instance (priority := high) : Sz (5 : Rat) 3 := ⟨by decide, by decide⟩
instance (priority := high) : SzI (6 : Int) 3 := ⟨by decide⟩
instance (priority := high) : Sz (6 : Rat) 3 := ⟨by decide, by decide⟩
instance (priority := high) : SzI (7 : Int) 3 := ⟨by decide⟩
instance (priority := high) : Sz (7 : Rat) 3 := ⟨by decide, by decide⟩
instance (priority := high) : SzI (8 : Int) 4 := ⟨by decide⟩
instance (priority := high) : Sz (8 : Rat) 4 := ⟨by decide, by decide⟩
instance (priority := high) : SzI (9 : Int) 4 := ⟨by decide⟩
instance (priority := high) : Sz (9 : Rat) 4 := ⟨by decide, by decide⟩
instance (priority := high) : SzI (10 : Int) 4 := ⟨by decide⟩
instance (priority := high) : Sz (10 : Rat) 4 := ⟨by decide, by decide⟩
instance (priority := high) : SzI (11 : Int) 4 := ⟨by decide⟩
instance (priority := high) : Sz (11 : Rat) 4 := ⟨by decide, by decide⟩
instance (priority := high) : SzI (12 : Int) 4 := ⟨by decide⟩
instance (priority := high) : Sz (12 : Rat) 4 := ⟨by decide, by decide⟩
instance (priority := high) : SzI (13 : Int) 4 := ⟨by decide⟩
instance (priority := high) : Sz (13 : Rat) 4 := ⟨by decide, by decide⟩
instance (priority := high) : SzI (14 : Int) 4 := ⟨by decide⟩
instance (priority := high) : Sz (14 : Rat) 4 := ⟨by decide, by decide⟩
instance (priority := high) : SzI (15 : Int) 4 := ⟨by decide⟩
instance (priority := high) : Sz (15 : Rat) 4 := ⟨by decide, by decide⟩
instance (priority := high) : SzI (16 : Int) 5 := ⟨by decide⟩
instance (priority := high) : Sz (16 : Rat) 5 := ⟨by decide, by decide⟩
instance (priority := high) : SzI (17 : Int) 5 := ⟨by decide⟩
instance (priority := high) : Sz (17 : Rat) 5 := ⟨by decide, by decide⟩
instance (priority := high) : SzI (18 : Int) 5 := ⟨by decide⟩
instance (priority := high) : Sz (18 : Rat) 5 := ⟨by decide, by decide⟩
instance (priority := high) : SzI (19 : Int) 5 := ⟨by decide⟩
instance (priority := high) : Sz (19 : Rat) 5 := ⟨by decide, by decide⟩
instance (priority := high) : SzI (20 : Int) 5 := ⟨by decide⟩
instance (priority := high) : Sz (20 : Rat) 5 := ⟨by decide, by decide⟩
instance (priority := high) : SzI (21 : Int) 5 := ⟨by decide⟩
instance (priority := high) : Sz (21 : Rat) 5 := ⟨by decide, by decide⟩
instance (priority := high) : SzI (22 : Int) 5 := ⟨by decide⟩
instance (priority := high) : Sz (22 : Rat) 5 := ⟨by decide, by decide⟩
instance (priority := high) : SzI (23 : Int) 5 := ⟨by decide⟩
instance (priority := high) : Sz (23 : Rat) 5 := ⟨by decide, by decide⟩
instance (priority := high) : SzI (24 : Int) 5 := ⟨by decide⟩
instance (priority := high) : Sz (24 : Rat) 5 := ⟨by decide, by decide⟩
instance (priority := high) : SzI (25 : Int) 5 := ⟨by decide⟩
instance (priority := high) : Sz (25 : Rat) 5 := ⟨by decide, by decide⟩
instance (priority := high) : SzI (26 : Int) 5 := ⟨by decide⟩
instance (priority := high) : Sz (26 : Rat) 5 := ⟨by decide, by decide⟩
instance (priority := high) : SzI (27 : Int) 5 := ⟨by decide⟩
instance (priority := high) : Sz (27 : Rat) 5 := ⟨by decide, by decide⟩
instance (priority := high) : SzI (28 : Int) 5 := ⟨by decide⟩
instance (priority := high) : Sz (28 : Rat) 5 := ⟨by decide, by decide⟩
instance (priority := high) : SzI (29 : Int) 5 := ⟨by decide⟩
instance (priority := high) : Sz (29 : Rat) 5 := ⟨by decide, by decide⟩
instance (priority := high) : SzI (30 : Int) 5 := ⟨by decide⟩
instance (priority := high) : Sz (30 : Rat) 5 := ⟨by decide, by decide⟩
instance (priority := high) : SzI (31 : Int) 5 := ⟨by decide⟩
instance (priority := high) : Sz (31 : Rat) 5 := ⟨by decide, by decide⟩
instance (priority := high) : SzI (32 : Int) 6 := ⟨by decide⟩
instance (priority := high) : Sz (32 : Rat) 6 := ⟨by decide, by decide⟩
instance (priority := high) : SzI (40 : Int) 6 := ⟨by decide⟩
instance (priority := high) : Sz (40 : Rat) 6 := ⟨by decide, by decide⟩
instance (priority := high) : SzI (50 : Int) 6 := ⟨by decide⟩
instance (priority := high) : Sz (50 : Rat) 6 := ⟨by decide, by decide⟩
instance (priority := high) : SzI (60 : Int) 6 := ⟨by decide⟩
instance (priority := high) : Sz (60 : Rat) 6 := ⟨by decide, by decide⟩
instance (priority := high) : SzI (64 : Int) 7 := ⟨by decide⟩
instance (priority := high) : Sz (64 : Rat) 7 := ⟨by decide, by decide⟩
instance (priority := high) : SzI (99 : Int) 7 := ⟨by decide⟩
instance (priority := high) : Sz (99 : Rat) 7 := ⟨by decide, by decide⟩
instance (priority := high) : SzI (100 : Int) 7 := ⟨by decide⟩
instance (priority := high) : Sz (100 : Rat) 7 := ⟨by decide, by decide⟩
theorem sz_frac {p q : Int} {n : Nat} (h : q ≠ 0) (h1 : -(2 ^ n) < p ∧ p < 2 ^ n) (h2 : -(2 ^ n) < q ∧ q < 2 ^ n) : Sz ((p : Rat) / (q : Rat)) n := sz_div h (sz_of h1.1 h1.2).lt (sz_of h2.1 h2.2).lt
theorem rsq_nn (a : Rat) : 0 ≤ a * a := by
  rcases Rat.nonneg_total (a := a) with h | h
  · exact Rat.mul_nonneg h h
  · have e : a * a = (-a) * (-a) := by grind
    rw [e]
    exact Rat.mul_nonneg h h
theorem rsq_ne {a : Rat} (h : a ≠ 0) : a * a ≠ 0 := fun z => by
  rcases Rat.mul_eq_zero.mp z with z | z <;> exact h z
theorem rsq_pos {a : Rat} (h : a ≠ 0) : 0 < a * a := Rat.lt_of_le_of_ne (rsq_nn a) (fun z => rsq_ne h z.symm)
theorem rdiv_pos {a b : Rat} (h : 0 < a) (g : 0 < b) : 0 < a / b := by
  rw [Rat.div_def]
  exact Rat.mul_pos h (Rat.inv_pos.mpr g)
theorem rnum_pos {a : Rat} (h : 0 < a) : 0 < a.num := by
  have h1 := Rat.num_nonneg.mpr (Rat.le_of_lt h)
  have h2 : a.num ≠ 0 := num_ne (fun z => by rw [z] at h; exact absurd h (by decide))
  omega
theorem rsum_pos {a b : Rat} (h : ¬ (a = 0 ∧ b = 0)) : 0 < a * a + b * b := by
  have h1 := rsq_nn a
  have h2 := rsq_nn b
  by_cases ha : a = 0
  · have := rsq_pos (fun z => h ⟨ha, z⟩ : b ≠ 0)
    grind
  · have := rsq_pos ha
    grind
theorem rsum_ne {c d : Rat} (h : ¬ (c = 0 ∧ d = 0)) : c * c + d * d ≠ 0 := fun z => by
  have := rsum_pos (a := c) (b := d) h
  rw [z] at this
  exact absurd this (by decide)
theorem rmul_ne {a b : Rat} (h : a ≠ 0) (h' : b ≠ 0) : a * b ≠ 0 := fun z => (Rat.mul_eq_zero.mp z).elim h h'
theorem kk_eq {k1 k2 T A : Rat} (h : k1 ≠ 0) : k2 * (T * A) = k2 * T / k1 * (k1 * A) := by grind
theorem kk_ne {k1 k2 T : Rat} (h : k1 ≠ 0) (h' : k2 ≠ 0) (h0 : T ≠ 0) : k2 * T / k1 ≠ 0 := by
  intro z
  have : k2 * T = 0 := by grind
  exact rmul_ne h' h0 this
end MP

/-! EV: the evaluator's equations as simp rules. -/
namespace MP
open PySem PySem.Spec PyProof.Rows L2
/-- a step whose second part waits, unread, for the first -/
structure Tg {α : Sort _} (a : α) : Type where
def _root_.Option.bd {α β : Type} (x : Option α) (g : α → Option β) (_ : Tg g := ⟨⟩) : Option β := x.bind g
theorem rfE {α : Sort _} {a b : α} (h : a = b) : a = b := h
@[simp] theorem bd_some {α β : Type} {a : α} {g : α → Option β} {t : Tg g} : Option.bd (some a) g t = g a := rfE rfl
@[simp] theorem bd_none {α β : Type} {g : α → Option β} {t : Tg g} : Option.bd none g t = none := rfE rfl
section
variable {S : Type} {F : Str → List W → S → Option (W × S)} {G : Str → Option W} {ρ : List Sl} {s : S}
def slW : Option Sl → Option W
  | some (.val w) => some w
  | _ => none
@[simp] theorem slW_val {w : W} : slW (some (.val w)) = some w := rfE rfl
@[simp] theorem e_var {i : Nat} {x : Str} {p : Pos} : evE F G (.var i x p) ρ s = (slW ρ[i]?).map fun w => (w, s) := by
  simp only [evE, Option.bd]; unfold slW; split <;> simp_all
@[simp] theorem e_cst {c : Const} {k : Nat} {p : Pos} : evE F G (.cst c k p) ρ s = (cstW c).map fun w => (w, s) := by simp only [evE, Option.bd]
@[simp] theorem e_glob {x : Str} {p : Pos} : evE F G (.glob x p) ρ s = (G x).map fun w => (w, s) := by simp only [evE, Option.bd]
@[simp] theorem e_bin {a b : IE} {op : Operator} {p : Pos} : evE F G (.bin a op b p) ρ s = (evE F G a ρ s).bd fun x => (evE F G b ρ x.2).bd fun y => (binW op x.1 y.1).map fun w => (w, y.2) := by simp only [evE, Option.bd]
def negW : W → Option W
  | .int i => some (.int (-i))
  | _ => none
@[simp] theorem negW_int {i : Int} : negW (.int i) = some (.int (-i)) := rfE rfl
@[simp] theorem e_neg {a : IE} {p : Pos} : evE F G (.neg a p) ρ s = (evE F G a ρ s).bd fun x => (negW x.1).map fun w => (w, x.2) := by
  simp only [evE, Option.bd]; congr 1; funext x; unfold negW; split <;> simp_all
@[simp] theorem e_not {a : IE} {p : Pos} : evE F G (.not a p) ρ s = (evE F G a ρ s).bd fun x => (truW x.1).map fun b => (.bl (!b), x.2) := by simp only [evE, Option.bd]
@[simp] theorem e_boolop {op : BoolOp} {es : IEs} {p : Pos} : evE F G (.boolop op es p) ρ s = evBool F G op es ρ s := by simp only [evE, Option.bd]
@[simp] theorem e_cmp {a b : IE} {op : CmpOp} {p : Pos} : evE F G (.cmp a op b p) ρ s = (orB (lent a ρ) s (evE F G a ρ s)).bd fun x => (orB (lent b ρ) x.2 (evE F G b ρ x.2)).bd fun y => (cmpW op x.1 y.1).map fun r => (.bl r, y.2) := by simp only [evE, Option.bd]
@[simp] theorem e_chain {a b c : IE} {o1 o2 : CmpOp} {p : Pos} : evE F G (.chain a o1 b o2 c p) ρ s = (evE F G a ρ s).bd fun x => (evE F G b ρ x.2).bd fun y => (cmpW o1 x.1 y.1).bd fun r =>
      if r then (evE F G c ρ y.2).bd fun z => (cmpW o2 y.1 z.1).map fun r' => (.bl r', z.2) else some (.bl false, y.2) := by simp only [evE, Option.bd]
@[simp] theorem e_ifx {c a b : IE} {p : Pos} : evE F G (.ifx c a b p) ρ s = (evE F G c ρ s).bd fun x => (truW x.1).bd fun r => if r then evE F G a ρ x.2 else evE F G b ρ x.2 := by simp only [evE, Option.bd]
@[simp] theorem e_call {f : Str} {es : IEs} {pf p : Pos} : evE F G (.call f es pf p) ρ s = (evEs F G es ρ s).bd fun x => F f x.1 x.2 := by simp only [evE, Option.bd]
@[simp] theorem e_bcall {f : Str} {es : IEs} {pf p : Pos} : evE F G (.bcall f es pf p) ρ s = (evBs F G es ρ s).bd fun x => (builtW f x.1).map fun w => (w, x.2) := by simp only [evE, Option.bd]
@[simp] theorem e_isinst {e : IE} {T : Str} {pf pT p : Pos} : evE F G (.isinst e T pf pT p) ρ s = (evE F G e ρ s).bd fun x => (isiT T x.1).map fun b => (.bl b, x.2) := by simp only [evE, Option.bd]
@[simp] theorem e_idx {a b : IE} {p : Pos} : evE F G (.idx a b p) ρ s = (orB (lent a ρ) s (evE F G a ρ s)).bd fun x => (evE F G b ρ x.2).bd fun y => (idxW x.1 y.1).map fun w => (w, y.2) := by simp only [evE, Option.bd]
@[simp] theorem e_slice {a : IE} {lo hi : IO} {ps p : Pos} : evE F G (.slice a lo hi ps p) ρ s = (orB (lent a ρ) s (evE F G a ρ s)).bd fun x => (evO F G lo ρ x.2).bd fun l => (evO F G hi ρ l.2).bd fun h => (sliceW x.1 l.1 h.1).map fun w => (w, h.2) := by simp only [evE, Option.bd]
def revW : W → Option W
  | .lst l => some (.lst l.reverse)
  | .tup l => some (.tup l.reverse)
  | _ => none
@[simp] theorem revW_l {l : List W} : revW (.lst l) = some (.lst l.reverse) := rfE rfl
@[simp] theorem revW_t {l : List W} : revW (.tup l) = some (.tup l.reverse) := rfE rfl
@[simp] theorem e_revsl {a : IE} {k : Nat} {p1 p2 p3 p : Pos} : evE F G (.revsl a k p1 p2 p3 p) ρ s = (orB (lent a ρ) s (evE F G a ρ s)).bd fun x => (revW x.1).map fun w => (w, x.2) := by
  simp only [evE, Option.bd]; congr 1; funext x
  obtain ⟨w, s⟩ := x
  cases w <;> rfl
@[simp] theorem e_tup {es : IEs} {k : Nat} {p : Pos} : evE F G (.tup es k p) ρ s = (evEs F G es ρ s).bd fun x => if x.1.length ≤ sizeLine then some (.tup x.1, x.2) else none := by simp only [evE, Option.bd]
@[simp] theorem e_lst {es : IEs} {p : Pos} : evE F G (.lst es p) ρ s = (evEs F G es ρ s).bd fun x => if x.1.length ≤ sizeLine then some (.lst x.1, x.2) else none := by simp only [evE, Option.bd]
@[simp] theorem e_nil : evEs F G .nil ρ s = some ([], s) := by simp only [evEs, Option.bd]
@[simp] theorem e_cons {e : IE} {es : IEs} : evEs F G (.cons e es) ρ s = (evE F G e ρ s).bd fun x => (evEs F G es ρ x.2).map fun r => (x.1 :: r.1, r.2) := by simp only [evEs, Option.bd]
@[simp] theorem e_bnil : evBs F G .nil ρ s = some ([], s) := by simp only [evBs, Option.bd]
@[simp] theorem e_bcons {e : IE} {es : IEs} : evBs F G (.cons e es) ρ s = (orB (lent e ρ) s (evE F G e ρ s)).bd fun x => (evBs F G es ρ x.2).map fun r => (x.1 :: r.1, r.2) := by simp only [evBs, Option.bd]
@[simp] theorem e_bool1 {op : BoolOp} {e : IE} : evBool F G op (.cons e .nil) ρ s = evE F G e ρ s := by simp only [evBool, Option.bd]
@[simp] theorem e_bool2 {op : BoolOp} {e e2 : IE} {es : IEs} : evBool F G op (.cons e (.cons e2 es)) ρ s = (evE F G e ρ s).bd fun x => (truW x.1).bd fun r => if r = isOr op then some x else evBool F G op (.cons e2 es) ρ x.2 := by simp only [evBool, Option.bd]
@[simp] theorem e_oN : evO F G .none ρ s = some (none, s) := by simp only [evO, Option.bd]
def intO : W → Option (Option Int)
  | .int i => some (some i)
  | _ => none
@[simp] theorem intO_int {i : Int} : intO (.int i) = some (some i) := rfE rfl
@[simp] theorem e_oS {e : IE} : evO F G (.some e) ρ s = (evE F G e ρ s).bd fun x => (intO x.1).map fun w => (w, x.2) := by
  simp only [evO, Option.bd]; congr 1; funext x; unfold intO; split <;> simp_all
@[simp] theorem e_ifN : evIf F G .none ρ s = some (true, s) := by simp only [evIf, Option.bd]
@[simp] theorem e_ifS {e : IE} : evIf F G (.some e) ρ s = (evE F G e ρ s).bd fun x => (truW x.1).map fun b => (b, x.2) := by simp only [evIf, Option.bd]
def seqO : W → Option (List W)
  | .lst l => some l
  | .tup l => some l
  | _ => none
@[simp] theorem seqO_lst {l : List W} : seqO (.lst l) = some l := rfE rfl
@[simp] theorem seqO_tup {l : List W} : seqO (.tup l) = some l := rfE rfl
@[simp] theorem e_seq {b : Bool} {e : IE} : evI F G b (.seq e) ρ s = (orB (if b then lent e ρ else none) s (evE F G e ρ s)).bd fun x => (seqO x.1).map fun l => (l, x.2) := by
  simp only [evI, Option.bd]; congr 1; funext x; unfold seqO; split <;> simp_all
def rngO : List W → Option (List W)
  | [.int j] => if -(2 ^ 62) ≤ j ∧ j < 2 ^ 62 then some ((List.range j.toNat).map fun i => W.int (0 + (i : Nat))) else none
  | [.int i, .int j] => if -(2 ^ 62) ≤ i ∧ i < 2 ^ 62 ∧ -(2 ^ 62) ≤ j ∧ j < 2 ^ 62 then some ((List.range (j - i).toNat).map fun k => W.int (i + (k : Nat))) else none
  | [.int i, .int j, .int (-1)] => if -(2 ^ 62) ≤ i ∧ i < 2 ^ 62 ∧ -(2 ^ 62) ≤ j ∧ j < 2 ^ 62 then some ((List.range (i - j).toNat).map fun k => W.int (i - (k : Nat))) else none
  | _ => none
@[simp] theorem e_range {b : Bool} {es : IEs} {pf p : Pos} : evI F G b (.range es pf p) ρ s = (evEs F G es ρ s).bd fun x => (rngO x.1).map fun l => (l, x.2) := by
  simp only [evI, Option.bd]; congr 1; funext x; unfold rngO; split <;> (try split) <;> simp_all
@[simp] theorem rngO_1 {j : Int} : rngO [.int j] = if -(2 ^ 62) ≤ j ∧ j < 2 ^ 62 then some ((List.range j.toNat).map fun i => W.int (0 + (i : Nat))) else none := rfE rfl
@[simp] theorem rngO_2 {i j : Int} : rngO [.int i, .int j] = if -(2 ^ 62) ≤ i ∧ i < 2 ^ 62 ∧ -(2 ^ 62) ≤ j ∧ j < 2 ^ 62 then some ((List.range (j - i).toNat).map fun k => W.int (i + (k : Nat))) else none := rfE rfl
def enm (k : Int) : List W → List W
  | [] => []
  | w :: l => W.tup [.int k, w] :: enm (k + 1) l
theorem enm_eq : ∀ {l : List W} {k : Nat}, (l.zipIdx k).map (fun p => W.tup [.int (p.2 : Nat), p.1]) = enm k l
  | [], k => rfl
  | w :: l, k => by
    rw [List.zipIdx_cons, List.map_cons, enm_eq, enm]
    rfl
def enumO : W → Option (List W)
  | .lst l => some (enm 0 l)
  | _ => none
@[simp] theorem enumO_lst {l : List W} : enumO (.lst l) = some (enm 0 l) := rfE rfl
@[simp] theorem enm_nil {k : Int} : enm k [] = [] := rfE rfl
@[simp] theorem enm_cons {k : Int} {w : W} {l : List W} : enm k (w :: l) = W.tup [.int k, w] :: enm (k + 1) l := rfE rfl
@[simp] theorem e_enum {b : Bool} {e : IE} {pf p : Pos} : evI F G b (.enum e pf p) ρ s = (orB (if b then lent e ρ else none) s (evE F G e ρ s)).bd fun x => (enumO x.1).map fun l => (l, x.2) := by
  simp only [evI, Option.bd]; congr 1; funext x
  generalize x.1 = w
  cases w with
  | lst l => exact congrArg (fun l => some (l, x.2)) (enm_eq (l := l) (k := 0))
  | _ => rfl
@[simp] theorem lent_cst {c k p} : lent (.cst c k p) ρ = none := rfE rfl
@[simp] theorem lent_glob {x p} : lent (.glob x p) ρ = none := rfE rfl
@[simp] theorem lent_bin {a o b p} : lent (.bin a o b p) ρ = none := rfE rfl
@[simp] theorem lent_neg {a p} : lent (.neg a p) ρ = none := rfE rfl
@[simp] theorem lent_not {a p} : lent (.not a p) ρ = none := rfE rfl
@[simp] theorem lent_boolop {o es p} : lent (.boolop o es p) ρ = none := rfE rfl
@[simp] theorem lent_cmp {a o b p} : lent (.cmp a o b p) ρ = none := rfE rfl
@[simp] theorem lent_chain {a o1 b o2 c p} : lent (.chain a o1 b o2 c p) ρ = none := rfE rfl
@[simp] theorem lent_ifx {c a b p} : lent (.ifx c a b p) ρ = none := rfE rfl
@[simp] theorem lent_call {f es pf p} : lent (.call f es pf p) ρ = none := rfE rfl
@[simp] theorem lent_bcall {f es pf p} : lent (.bcall f es pf p) ρ = none := rfE rfl
@[simp] theorem lent_isinst {e T pf pT p} : lent (.isinst e T pf pT p) ρ = none := rfE rfl
@[simp] theorem lent_idx {a b p} : lent (.idx a b p) ρ = none := rfE rfl
@[simp] theorem lent_slice {a lo hi ps p} : lent (.slice a lo hi ps p) ρ = none := rfE rfl
@[simp] theorem lent_lc2 {elt tg it ifs tg1 it1 ifs1 sc own vs1 p} : lent (.lc2 elt tg it ifs tg1 it1 ifs1 sc own vs1 p) ρ = none := rfE rfl
@[simp] theorem lent_revsl {a k p1 p2 p3 p} : lent (.revsl a k p1 p2 p3 p) ρ = none := rfE rfl
@[simp] theorem lent_tup {es k p} : lent (.tup es k p) ρ = none := rfE rfl
@[simp] theorem lent_lst {es p} : lent (.lst es p) ρ = none := rfE rfl
@[simp] theorem lent_lc {e tg it ifs sc own p} : lent (.lc e tg it ifs sc own p) ρ = none := rfE rfl
def owO : Option Sl → Option (List W)
  | some (.own l) => some l
  | _ => none
@[simp] theorem owO_own {l : List W} : owO (some (.own l)) = some l := rfE rfl
@[simp] theorem owO_val {w : W} : owO (some (.val w)) = none := rfE rfl
@[simp] theorem owO_no : owO (some .no) = none := rfE rfl
@[simp] theorem lent_var {i : Nat} {x : Str} {p : Pos} : lent (.var i x p) ρ = owO ρ[i]? := by
  unfold lent owO; rfl
@[simp] theorem orB_none {r : Option (W × S)} : orB none s r = r := rfE rfl
@[simp] theorem orB_some {l : List W} {r : Option (W × S)} : orB (some l) s r = some (.lst l, s) := rfE rfl

@[simp] theorem fr_neg {a : Rat} : W.tup [.int (-a.num), .int (a.den : Int)] = fr (-a) := by
  unfold fr; rw [Rat.neg_num, Rat.neg_den]
@[simp] theorem atI_m1_1 {a : W} : atI [a] (-1) = some a := rfE rfl
@[simp] theorem atI_m1_2 {a b : W} : atI [a, b] (-1) = some b := rfE rfl
@[simp] theorem atI_m2_2 {a b : W} : atI [a, b] (-2) = some a := rfE rfl
@[simp] theorem atI_m1_3 {a b c : W} : atI [a, b, c] (-1) = some c := rfE rfl
@[simp] theorem atI_m2_3 {a b c : W} : atI [a, b, c] (-2) = some b := rfE rfl
@[simp] theorem atI_m3_3 {a b c : W} : atI [a, b, c] (-3) = some a := rfE rfl
@[simp] theorem atI_m1_4 {a b c d : W} : atI [a, b, c, d] (-1) = some d := rfE rfl
@[simp] theorem atI_m2_4 {a b c d : W} : atI [a, b, c, d] (-2) = some c := rfE rfl
@[simp] theorem atI_m3_4 {a b c d : W} : atI [a, b, c, d] (-3) = some b := rfE rfl
@[simp] theorem atI_m4_4 {a b c d : W} : atI [a, b, c, d] (-4) = some a := rfE rfl
@[simp] theorem atI_m1_5 {a b c d e : W} : atI [a, b, c, d, e] (-1) = some e := rfE rfl
@[simp] theorem atI_m2_5 {a b c d e : W} : atI [a, b, c, d, e] (-2) = some d := rfE rfl
@[simp] theorem atI_m3_5 {a b c d e : W} : atI [a, b, c, d, e] (-3) = some c := rfE rfl
@[simp] theorem atI_m4_5 {a b c d e : W} : atI [a, b, c, d, e] (-4) = some b := rfE rfl
@[simp] theorem atI_m5_5 {a b c d e : W} : atI [a, b, c, d, e] (-5) = some a := rfE rfl
@[simp] theorem atI_m1_6 {a b c d e f : W} : atI [a, b, c, d, e, f] (-1) = some f := rfE rfl
@[simp] theorem atI_m2_6 {a b c d e f : W} : atI [a, b, c, d, e, f] (-2) = some e := rfE rfl
@[simp] theorem atI_m3_6 {a b c d e f : W} : atI [a, b, c, d, e, f] (-3) = some d := rfE rfl
@[simp] theorem atI_m4_6 {a b c d e f : W} : atI [a, b, c, d, e, f] (-4) = some c := rfE rfl
@[simp] theorem atI_m5_6 {a b c d e f : W} : atI [a, b, c, d, e, f] (-5) = some b := rfE rfl
@[simp] theorem atI_m6_6 {a b c d e f : W} : atI [a, b, c, d, e, f] (-6) = some a := rfE rfl
@[simp] theorem atI_m1_7 {a b c d e f g : W} : atI [a, b, c, d, e, f, g] (-1) = some g := rfE rfl
@[simp] theorem atI_m2_7 {a b c d e f g : W} : atI [a, b, c, d, e, f, g] (-2) = some f := rfE rfl
@[simp] theorem atI_m3_7 {a b c d e f g : W} : atI [a, b, c, d, e, f, g] (-3) = some e := rfE rfl
@[simp] theorem atI_m4_7 {a b c d e f g : W} : atI [a, b, c, d, e, f, g] (-4) = some d := rfE rfl
@[simp] theorem atI_m5_7 {a b c d e f g : W} : atI [a, b, c, d, e, f, g] (-5) = some c := rfE rfl
@[simp] theorem atI_m6_7 {a b c d e f g : W} : atI [a, b, c, d, e, f, g] (-6) = some b := rfE rfl
@[simp] theorem atI_m7_7 {a b c d e f g : W} : atI [a, b, c, d, e, f, g] (-7) = some a := rfE rfl
/-- one item of a comprehension -/
def lcItem (F : Str → List W → S → Option (W × S)) (G : Str → Option W) (elt : IE) (tg : IT) (ifs : IO) (vs : List Nat) (ρ : List Sl) (w : W) (s : S) : Option (Option W × S) :=
  (asgT tg w (wipeS ρ vs)).bind fun ρ2 => (evIf F G ifs ρ2 s).bind fun c => if c.1 then (evE F G elt ρ2 c.2).map fun y => (some y.1, y.2) else some (none, c.2)
def genW (any_ : Bool) (g : GE) (w : W) : Option W := match w with
  | .tup l => (tstAll g l).map fun bs => .bl (if any_ then bs.any id else bs.all id)
  | _ => none
@[simp] theorem e_gen {any_ : Bool} {g : GE} {x : Str} {it : IE} {sc : Scope} {px pf pg p : Pos} : evE F G (.gen any_ g x it sc px pf pg p) ρ s = (evE F G it ρ s).bd fun y => (genW any_ g y.1).map fun w => (w, y.2) := by
  simp only [evE, Option.bd]; congr 1; funext y
  obtain ⟨y1, y2⟩ := y
  cases y1 <;> simp [genW, Function.comp_def]
@[simp] theorem genW_tup {any_ : Bool} {g : GE} {l : List W} : genW any_ g (.tup l) = (tstAll g l).map fun bs => .bl (if any_ then bs.any id else bs.all id) := rfE rfl
@[simp] theorem tstAll_nil {g : GE} : tstAll g [] = some [] := rfE rfl
@[simp] theorem tstAll_cons {g : GE} {w : W} {l : List W} : tstAll g (w :: l) = (g.tst w).bd fun b => (tstAll g l).map fun r => b :: r := by simp only [tstAll, Option.bd]
@[simp] theorem tst_ne0 {p1 p2 p3 : Pos} {k : Nat} {i : Int} : GE.tst (.ne0 p1 k p2 p3) (.int i) = some (i != 0) := rfE rfl
@[simp] theorem tst_gt0 {p1 p2 p3 p4 p5 : Pos} {k1 k2 : Nat} {x : Rat} : GE.tst (.gt0 p1 k1 p2 p3 k2 p4 p5) (fr x) = some (decide (0 < x.num)) := rfE rfl
@[simp] theorem e_lc {elt : IE} {tg : IT} {it : II} {ifs : IO} {sc : Scope} {own : List (Str × Nat)} {p : Pos} : evE F G (.lc elt tg it ifs sc own p) ρ s = (evI F G true it ρ s).bd fun x =>
    if x.1.length ≤ sizeLine then (lcGo (lcItem F G elt tg ifs (own.map (·.2)) ρ) x.1 x.2).map fun y => (.lst y.1, y.2) else none := by
  simp only [evE, Option.bd]; rfl
def lcK (k : S → Option (List W × S)) (r : Option W × S) : Option (List W × S) := (k r.2).map fun q => ((match r.1 with | some y => y :: q.1 | none => q.1), q.2)
@[simp] theorem lcK_some {k : S → Option (List W × S)} {y : W} : lcK k (some y, s) = (k s).map fun q => (y :: q.1, q.2) := rfE rfl
@[simp] theorem lcK_none {k : S → Option (List W × S)} : lcK k (none, s) = (k s).map fun q => (q.1, q.2) := rfE rfl
/-- one item of the outer clause of two -/
def lcOut (F : Str → List W → S → Option (W × S)) (G : Str → Option W) (elt : IE) (tg : IT) (ifs : IO) (tg1 : IT) (it1 : II) (ifs1 : IO) (vs vs1 : List Nat) (ρ : List Sl) (w : W) (s : S) : Option (List W × S) :=
  (asgT tg w (wipeS ρ vs)).bind fun ρ2 => (evIf F G ifs ρ2 s).bind fun c => if c.1 then (evI F G false it1 ρ2 c.2).bind fun x1 => lcGo (lcItem F G elt tg1 ifs1 vs1 ρ2) x1.1 x1.2 else some ([], c.2)
@[simp] theorem e_lc2 {elt : IE} {tg tg1 : IT} {it it1 : II} {ifs ifs1 : IO} {sc : Scope} {own : List (Str × Nat)} {vs1 : List Nat} {p : Pos} : evE F G (.lc2 elt tg it ifs tg1 it1 ifs1 sc own vs1 p) ρ s = (evI F G true it ρ s).bd fun x =>
    (lcGo2 (lcOut F G elt tg ifs tg1 it1 ifs1 (own.map (·.2)) vs1 ρ) x.1 x.2).bd fun y => if y.1.length ≤ sizeLine then some (.lst y.1, y.2) else none := by
  simp only [evE, Option.bd]; rfl
@[simp] theorem lcGo2_nil {f : W → S → Option (List W × S)} : lcGo2 f [] s = some ([], s) := rfE rfl
@[simp] theorem lcGo2_cons {f : W → S → Option (List W × S)} {w : W} {l : List W} : lcGo2 f (w :: l) s = (f w s).bd fun r => (lcGo2 f l r.2).map fun q => (r.1 ++ q.1, q.2) := by
  simp only [lcGo2, Option.bd]
  congr 1; funext r
  cases lcGo2 f l r.2 <;> rfl
@[simp] theorem lcGo_nil {f : W → S → Option (Option W × S)} : lcGo f [] s = some ([], s) := rfE rfl
@[simp] theorem lcGo_cons {f : W → S → Option (Option W × S)} {w : W} {l : List W} : lcGo f (w :: l) s = (f w s).bd (lcK (lcGo f l)) := by
  simp only [lcGo]
  congr 1; funext r
  obtain ⟨o, s'⟩ := r
  simp only [lcK]
  cases lcGo f l s' <;> rfl
/-- a comprehension that changes no state -/
theorem lcGo_map {α : Type} {f : W → S → Option (Option W × S)} {enc : α → W} {g : α → Option W} : ∀ {l : List α}, (∀ a ∈ l, f (enc a) s = some (g a, s)) → lcGo f (l.map enc) s = some (l.filterMap g, s)
  | [], _ => rfl
  | a :: l, h => by
    rw [List.map_cons, lcGo_cons, h a (List.mem_cons_self ..), bd_some]
    have ih := lcGo_map (f := f) (enc := enc) (g := g) (l := l) fun b hb => h b (List.mem_cons_of_mem _ hb)
    cases e : g a with
    | none => simp [ih, e]
    | some y => simp [ih, e]
theorem lcGo_all {α β : Type} {f : W → S → Option (Option W × S)} {enc : α → W} {enc' : β → W} {g : α → β} {l : List α} (h : ∀ a ∈ l, f (enc a) s = some (some (enc' (g a)), s)) : lcGo f (l.map enc) s = some ((l.map g).map enc', s) := by
  rw [lcGo_map h]
  congr 2
  clear h
  induction l with
  | nil => rfl
  | cons a l ih => simp
/-- a loop that folds -/
theorem forGo_fold {α β : Type} {f : W → List Sl × S → Option (R3 S)} {ρ0 : List Sl} (enc : α → W) (env : β → List Sl) (step : β → α → β) (I : β → List α → Prop)
    (l : List α) (b : β) (h0 : ρ0 = env b) (hi : I b l) (hs : ∀ b a l, I b (a :: l) → f (enc a) (env b, s) = some (.nx, env (step b a), s) ∧ I (step b a) l) : forGo f (l.map enc) (ρ0, s) = some (.nx, env (l.foldl step b), s) := by
  subst h0
  induction l generalizing b with
  | nil => rfl
  | cons a l ih =>
    obtain ⟨h1, h2⟩ := hs b a l hi
    rw [List.map_cons]
    show (f (enc a) (env b, s)).bind _ = _
    rw [h1]
    exact ih (step b a) h2
theorem cut_take {l : List W} {k : Nat} : cutW l none (some (k : Int)) = l.take k := by
  unfold cutW
  rw [HT.sIx_nat, HT.sIx_none, List.drop_zero, Nat.sub_zero]
  apply List.ext_getElem?
  intro i
  simp only [List.getElem?_take]
  by_cases h1 : i < k
  · by_cases h2 : i < l.length
    · rw [if_pos (by omega), if_pos h1]
    · rw [if_pos h1]
      split
      · rfl
      · rw [List.getElem?_eq_none (by omega)]
  · rw [if_neg (by omega), if_neg h1]
theorem cut_drop {l : List W} {k : Nat} : cutW l (some (k : Int)) none = l.drop k := by
  unfold cutW
  rw [HT.sIx_nat, HT.sIx_none]
  apply List.ext_getElem?
  intro i
  simp only [List.getElem?_take, List.getElem?_drop]
  by_cases h1 : k ≤ l.length
  · rw [Nat.min_eq_left h1]
    by_cases h2 : i < l.length - k
    · rw [if_pos (by omega)]
    · rw [if_neg (by omega), List.getElem?_eq_none (by omega)]
  · rw [Nat.min_eq_right (by omega), if_neg (by omega), List.getElem?_eq_none (by omega)]
@[simp] theorem cutd_1 {l : List W} : cutW l (some 1) none = l.drop 1 := cut_drop (k := 1)
@[simp] theorem cutd_2 {l : List W} : cutW l (some 2) none = l.drop 2 := cut_drop (k := 2)
@[simp] theorem cutd_3 {l : List W} : cutW l (some 3) none = l.drop 3 := cut_drop (k := 3)
@[simp] theorem cutd_4 {l : List W} : cutW l (some 4) none = l.drop 4 := cut_drop (k := 4)
@[simp] theorem cutd_5 {l : List W} : cutW l (some 5) none = l.drop 5 := cut_drop (k := 5)
@[simp] theorem cutd_6 {l : List W} : cutW l (some 6) none = l.drop 6 := cut_drop (k := 6)
@[simp] theorem cut_36 {a b c d e f : W} {l : List W} : cutW (a :: b :: c :: d :: e :: f :: l) (some 3) (some 6) = [d, e, f] := by
  have h1 : HT.sIx (a :: b :: c :: d :: e :: f :: l).length 0 (some 3) = 3 := by unfold HT.sIx; simp
  have h2 : HT.sIx (a :: b :: c :: d :: e :: f :: l).length (a :: b :: c :: d :: e :: f :: l).length (some 6) = 6 := by unfold HT.sIx; simp
  unfold cutW
  rw [h1, h2]
  rfl
@[simp] theorem cutd_0 {l : List W} : cutW l (some 0) none = l.drop 0 := cut_drop (k := 0)
@[simp] theorem cutd_7 {l : List W} : cutW l (some 7) none = l.drop 7 := cut_drop (k := 7)
@[simp] theorem cut_0 {l : List W} : cutW l none (some 0) = l.take 0 := cut_take (k := 0)
@[simp] theorem cut_4 {l : List W} : cutW l none (some 4) = l.take 4 := cut_take (k := 4)
@[simp] theorem cut_5 {l : List W} : cutW l none (some 5) = l.take 5 := cut_take (k := 5)
@[simp] theorem cut_6 {l : List W} : cutW l none (some 6) = l.take 6 := cut_take (k := 6)
@[simp] theorem cut_7 {l : List W} : cutW l none (some 7) = l.take 7 := cut_take (k := 7)
@[simp] theorem cut_1 {l : List W} : cutW l none (some 1) = l.take 1 := cut_take (k := 1)
@[simp] theorem cut_2 {l : List W} : cutW l none (some 2) = l.take 2 := cut_take (k := 2)
@[simp] theorem cut_3 {l : List W} : cutW l none (some 3) = l.take 3 := cut_take (k := 3)
@[simp] theorem slice_l {l : List W} {lo hi : Option Int} : sliceW (.lst l) lo hi = some (.lst (cutW l lo hi)) := rfE rfl
@[simp] theorem slice_t {l : List W} {lo hi : Option Int} : sliceW (.tup l) lo hi = some (.tup (cutW l lo hi)) := rfE rfl
@[simp] theorem rng_1 : List.range 1 = [0] := rfE rfl
@[simp] theorem rng_2 : List.range 2 = [0, 1] := rfE rfl
@[simp] theorem rng_3 : List.range 3 = [0, 1, 2] := rfE rfl
@[simp] theorem rng_4 : List.range 4 = [0, 1, 2, 3] := rfE rfl
@[simp] theorem rng_5 : List.range 5 = [0, 1, 2, 3, 4] := rfE rfl
@[simp] theorem rng_6 : List.range 6 = [0, 1, 2, 3, 4, 5] := rfE rfl
/-! statements -/
@[simp] theorem s_nil : evSs F G .nil ρ s = some (.nx, ρ, s) := by simp only [evSs, Option.bd]
def nxt (k : List Sl → S → Option (R3 S)) (r : R3 S) : Option (R3 S) := match r.1 with
  | .nx => k r.2.1 r.2.2
  | f => some (f, r.2)
@[simp] theorem nxt_nx {k : List Sl → S → Option (R3 S)} : nxt k (Fl.nx, ρ, s) = k ρ s := rfE rfl
@[simp] theorem nxt_ret {k : List Sl → S → Option (R3 S)} {w : W} : nxt k (Fl.ret w, ρ, s) = some (Fl.ret w, ρ, s) := rfE rfl
@[simp] theorem nxt_brk {k : List Sl → S → Option (R3 S)} : nxt k (Fl.brk, ρ, s) = some (Fl.brk, ρ, s) := rfE rfl
@[simp] theorem nxt_cnt {k : List Sl → S → Option (R3 S)} : nxt k (Fl.cnt, ρ, s) = some (Fl.cnt, ρ, s) := rfE rfl
@[simp] theorem s_cons {st : IS} {ss : ISs} : evSs F G (.cons st ss) ρ s = (evS F G st ρ s).bd (nxt fun ρ s => evSs F G ss ρ s) := by simp only [evSs, Option.bd]; rfl
@[simp] theorem bd_nxt_nil {x : Option (R3 S)} : x.bd (nxt fun ρ s => evSs F G .nil ρ s) = x := by
  cases x with
  | none => rfl
  | some r =>
    obtain ⟨f, ρ, s⟩ := r
    cases f <;> simp [nxt]
@[simp] theorem s_asgn {i : Nat} {x : Str} {px p : Pos} {e : IE} {esc : List Nat} {own : Bool} : evS F G (.asg (.name i x px) e esc own p) ρ s = (evE F G e (freeze esc ρ) s).bd fun x => some (.nx, (after esc x.1 ρ).set i (stor own x.1), x.2) := by simp only [evS, Option.bd]
@[simp] theorem s_asgt {ts : ITs} {k : Nat} {pt p : Pos} {e : IE} {esc : List Nat} {own : Bool} : evS F G (.asg (.tup ts k pt) e esc own p) ρ s = (evE F G e (freeze esc ρ) s).bd fun x => (asgT (.tup ts k pt) x.1 (after esc x.1 ρ)).map fun ρ' => (.nx, ρ', x.2) := by simp only [evS, Option.bd]
@[simp] theorem s_par {xs : List (Nat × Str × Pos)} {k k2 : Nat} {pt pt2 p : Pos} {es : IEs} {esc : List Nat} : evS F G (.par xs k pt es k2 pt2 esc p) ρ s = (evEs F G es (freeze esc ρ) s).bd fun x => (parSet xs x.1 (if flats x.1 then ρ else freeze esc ρ)).map fun ρ' => (.nx, ρ', x.2) := by simp only [evS, Option.bd]
@[simp] theorem s_setlc {i : Nat} {x : Str} {px p : Pos} {e : IE} {esc : List Nat} {own : Bool} : evS F G (.setlc i x px e esc own p) ρ s = (evE F G e (freeze esc ρ) s).bd fun x => some (.nx, (after esc x.1 ρ).set i (stor own x.1), x.2) := by simp only [evS, Option.bd]
@[simp] theorem s_ret {e : IE} {esc : List Nat} {p : Pos} : evS F G (.ret e esc p) ρ s = (evE F G e (freeze esc ρ) s).map fun x => (.ret x.1, ρ, x.2) := by simp only [evS, Option.bd]
@[simp] theorem s_retn {p : Pos} : evS F G (.retn p) ρ s = some (.ret .non, ρ, s) := by simp only [evS, Option.bd]
@[simp] theorem s_ite {c : IE} {a b : ISs} {esc : List Nat} {p : Pos} : evS F G (.ite c a b esc p) ρ s = (evE F G c (freeze esc ρ) s).bd fun x => (truW x.1).bd fun r => if r then evSs F G a ρ x.2 else evSs F G b ρ x.2 := by simp only [evS, Option.bd]
@[simp] theorem s_brk {p : Pos} : evS F G (.brk p) ρ s = some (.brk, ρ, s) := by simp only [evS, Option.bd]
@[simp] theorem s_cnt {p : Pos} : evS F G (.cnt p) ρ s = some (.cnt, ρ, s) := by simp only [evS, Option.bd]
@[simp] theorem s_pass {p : Pos} : evS F G (.pass p) ρ s = some (.nx, ρ, s) := by simp only [evS, Option.bd]
def appK : Option (List W) → List Sl → Nat → W → S → Option (R3 S)
  | some l, ρ, i, w, s => if l.length < sizeLine then some (.nx, ρ.set i (.own (l ++ [w])), s) else none
  | none, _, _, _, _ => none
@[simp] theorem appK_some {l : List W} {i : Nat} {w : W} : appK (some l) ρ i w s = if l.length < sizeLine then some (.nx, ρ.set i (.own (l ++ [w])), s) else none := rfE rfl
@[simp] theorem s_app {i : Nat} {x : Str} {px pa pc : Pos} {e : IE} {esc : List Nat} {p : Pos} : evS F G (.app i x px pa pc e esc p) ρ s = (evE F G e (freeze esc ρ) s).bd fun x => appK (owO (after esc x.1 ρ)[i]?) (after esc x.1 ρ) i x.1 x.2 := by
  simp only [evS, Option.bd]; congr 1; funext x
  generalize (after esc x.1 ρ)[i]? = o
  cases o with
  | none => rfl
  | some sl => cases sl <;> rfl
def insK (o : Option (List W)) (j : Int) (ρ : List Sl) (i : Nat) (w : W) (s : S) : Option (R3 S) := match o with
  | some l => if l.length < sizeLine ∧ 0 ≤ j ∧ j < 2 ^ 63 then some (.nx, ρ.set i (.own (l.take j.toNat ++ [w] ++ l.drop j.toNat)), s) else none
  | none => none
@[simp] theorem insK_some {l : List W} {j : Int} {i : Nat} {w : W} : insK (some l) j ρ i w s = if l.length < sizeLine ∧ 0 ≤ j ∧ j < 2 ^ 63 then some (.nx, ρ.set i (.own (l.take j.toNat ++ [w] ++ l.drop j.toNat)), s) else none := rfE rfl
def insI (y : W) (f : Int → Option (R3 S)) : Option (R3 S) := match y with
  | .int j => f j
  | _ => none
@[simp] theorem insI_int {j : Int} {f : Int → Option (R3 S)} : insI (.int j) f = f j := rfE rfl
@[simp] theorem s_ins {i : Nat} {x : Str} {px pa pc : Pos} {k e : IE} {esc : List Nat} {p : Pos} : evS F G (.ins i x px pa pc k e esc p) ρ s = (evE F G k ρ s).bd fun x => insI x.1 fun j => (evE F G e (freeze esc ρ) x.2).bd fun y => insK (owO (after esc y.1 ρ)[i]?) j (after esc y.1 ρ) i y.1 y.2 := by
  simp only [evS, Option.bd]; congr 1; funext x
  generalize x.1 = w
  cases w <;> try rfl
  show Option.bind _ _ = Option.bind _ _
  congr 1; funext y
  generalize (after esc y.1 ρ)[i]? = o
  cases o with
  | none => rfl
  | some sl => cases sl <;> rfl
def setK (o : Option (List W)) (y : W) (i : Nat) (w : W) (ρ : List Sl) (s : S) : Option (R3 S) := match o, y with
  | some l, .int k => (ixN l.length k).map fun j => (.nx, ρ.set i (.own (l.set j w)), s)
  | _, _ => none
@[simp] theorem setK_some {l : List W} {k : Int} {i : Nat} {w : W} : setK (some l) (.int k) i w ρ s = (ixN l.length k).map fun j => (.nx, ρ.set i (.own (l.set j w)), s) := rfE rfl
@[simp] theorem s_setix {i : Nat} {x : Str} {px tp : Pos} {ix e : IE} {esc : List Nat} {p : Pos} : evS F G (.setix i x px ix tp e esc p) ρ s = (evE F G e (freeze esc ρ) s).bd fun x => (evE F G ix (after esc x.1 ρ) x.2).bd fun y => setK (owO (after esc x.1 ρ)[i]?) y.1 i x.1 (after esc x.1 ρ) y.2 := by
  simp only [evS, Option.bd]; congr 1; funext x
  generalize (after esc x.1 ρ)[i]? = o
  have hn : ∀ q : Option (W × S), q.bind (fun y => setK none y.1 i x.1 (after esc x.1 ρ) y.2) = none := fun q => by cases q <;> rfl
  cases o with
  | none => exact (hn _).symm
  | some sl =>
    cases sl with
    | own l =>
      show Option.bind _ _ = Option.bind _ _
      congr 1; funext y
      obtain ⟨y1, y2⟩ := y
      cases y1 <;> rfl
    | _ => exact (hn _).symm
@[simp] theorem s_set2 {i : Nat} {x : Str} {p1 t1 p2 t2 pt p : Pos} {k : Nat} {i1 i2 e : IE} {esc : List Nat} : evS F G (.set2 i x p1 i1 t1 p2 i2 t2 k pt e esc p) ρ s = (evE F G e (freeze esc ρ) s).bd fun x => (pairW x.1).bd fun uv => (ownS (after esc x.1 ρ)[i]?).bd fun l =>
      (evE F G i1 (after esc x.1 ρ) x.2).bd fun y => (putW l y.1 uv.1).bd fun l1 => (evE F G i2 ((after esc x.1 ρ).set i (.own l1)) y.2).bd fun z => (putW l1 z.1 uv.2).map fun l2 =>
        (.nx, ((after esc x.1 ρ).set i (.own l1)).set i (.own l2), z.2) := by
  simp only [evS, Option.bd]
@[simp] theorem pairW_tup {u v : W} : pairW (.tup [u, v]) = some (u, v) := rfE rfl
@[simp] theorem ownS_own {l : List W} : ownS (some (.own l)) = some l := rfE rfl
@[simp] theorem putW_int {l : List W} {k : Int} {w : W} : putW l (.int k) w = (ixN l.length k).map fun j => l.set j w := rfE rfl
@[simp] theorem ixN_0 {n : Nat} : ixN (n + 1) 0 = some 0 := by
  unfold ixN
  rw [if_pos (by omega), if_pos (by omega)]; rfl
@[simp] theorem ixN_1 {n : Nat} : ixN (n + 2) 1 = some 1 := by
  unfold ixN
  rw [if_pos (by omega), if_pos (by omega)]; rfl
@[simp] theorem ixN_2 {n : Nat} : ixN (n + 3) 2 = some 2 := by
  unfold ixN
  rw [if_pos (by omega), if_pos (by omega)]; rfl
def augW (op : Operator) : Option W → W → Option W
  | some (.int a), .int b => binW op (.int a) (.int b)
  | _, _ => none
@[simp] theorem augW_int {op : Operator} {a b : Int} : augW op (some (.int a)) (.int b) = binW op (.int a) (.int b) := rfE rfl
@[simp] theorem s_aug {i : Nat} {x : Str} {px p : Pos} {op : Operator} {e : IE} {esc : List Nat} {u : W} (h : ρ[i]? = some (.val u)) : evS F G (.aug i x px op e esc p) ρ s = (evE F G e (freeze esc ρ) s).bd fun x => (augW op (some u) x.1).map fun w => (.nx, ρ.set i (.val w), x.2) := by
  simp only [evS, h, Option.bd]; congr 1; funext x
  split <;> simp_all [augW]
@[simp] theorem freeze_nil : freeze [] ρ = ρ := rfE rfl
def frzK (i : Nat) (o : Option Sl) (ρ : List Sl) : List Sl := match o with
  | some (.own l) => ρ.set i (.val (.lst l))
  | _ => ρ
@[simp] theorem frzK_own {i : Nat} {l : List W} : frzK i (some (.own l)) ρ = ρ.set i (.val (.lst l)) := rfE rfl
@[simp] theorem frzK_val {i : Nat} {w : W} : frzK i (some (.val w)) ρ = ρ := rfE rfl
@[simp] theorem frzK_no {i : Nat} : frzK i (some .no) ρ = ρ := rfE rfl
@[simp] theorem freeze_cons {i : Nat} {r : List Nat} : freeze (i :: r) ρ = frzK i (freeze r ρ)[i]? (freeze r ρ) := by
  rw [freeze]
  generalize (freeze r ρ)[i]? = o
  cases o with
  | none => rfl
  | some sl => cases sl <;> rfl
theorem after_nil {w : W} : after [] w ρ = ρ := by unfold after; split <;> rfl
@[simp] theorem after_nil' {w : W} : after [] w ρ = ρ := after_nil
@[simp] theorem after_lst {esc : List Nat} {l : List W} : after esc (.lst l) ρ = freeze esc ρ := rfE rfl
@[simp] theorem after_tup {esc : List Nat} {l : List W} : after esc (.tup l) ρ = if flats l then ρ else freeze esc ρ := by
  have e : flat (.tup l) = flats l := by simp only [flat]
  unfold after
  by_cases h : flats l = true <;> simp [e, h]
@[simp] theorem after_fr {esc : List Nat} {x : Rat} : after esc (fr x) ρ = ρ := rfE rfl
@[simp] theorem after_int {esc : List Nat} {x : Int} : after esc (.int x) ρ = ρ := rfE rfl
@[simp] theorem after_bl {esc : List Nat} {x : Bool} : after esc (.bl x) ρ = ρ := rfE rfl
@[simp] theorem after_str {esc : List Nat} {x : Str} : after esc (.str x) ρ = ρ := rfE rfl
@[simp] theorem after_non {esc : List Nat} : after esc .non ρ = ρ := rfE rfl
@[simp] theorem flatIf {b : Bool} : (if b then ρ else ρ) = ρ := by split <;> rfl
@[simp] theorem stor_no {w : W} : stor false w = .val w := by unfold stor; split <;> simp_all
@[simp] theorem stor_own {l : List W} : stor true (.lst l) = .own l := rfE rfl
@[simp] theorem asg_name {i : Nat} {x : Str} {p : Pos} {w : W} : asgT (.name i x p) w ρ = some (ρ.set i (.val w)) := by simp only [asgT]
@[simp] theorem asg_tup {ts : ITs} {k : Nat} {p : Pos} {l : List W} : asgT (.tup ts k p) (.tup l) ρ = asgT.asgTs ts l ρ := by simp only [asgT]
@[simp] theorem asg_lst {ts : ITs} {k : Nat} {p : Pos} {l : List W} : asgT (.tup ts k p) (.lst l) ρ = asgT.asgTs ts l ρ := by simp only [asgT]
@[simp] theorem asg_fr {ts : ITs} {k : Nat} {p : Pos} {x : Rat} : asgT (.tup ts k p) (fr x) ρ = asgT.asgTs ts [.int x.num, .int x.den] ρ := by unfold fr; simp only [asgT]
@[simp] theorem asg_nil : asgT.asgTs .nil [] ρ = some ρ := by simp only [asgT.asgTs, Option.bd]
@[simp] theorem asg_cons {t : IT} {ts : ITs} {w : W} {l : List W} : asgT.asgTs (.cons t ts) (w :: l) ρ = (asgT t w ρ).bd fun ρ' => asgT.asgTs ts l ρ' := by simp only [asgT.asgTs, Option.bd]
@[simp] theorem par_nil : parSet [] [] ρ = some ρ := rfE rfl
@[simp] theorem par_cons {t : Nat × Str × Pos} {ts : List (Nat × Str × Pos)} {w : W} {l : List W} : parSet (t :: ts) (w :: l) ρ = parSet ts l (ρ.set t.1 (.val w)) := rfE rfl
def whlK (k : List Sl → S → Option (R3 S)) (wp : List Nat) (q : R3 S) : Option (R3 S) := match q.1 with
  | .nx => k (wipeS q.2.1 wp) q.2.2
  | .cnt => k (wipeS q.2.1 wp) q.2.2
  | .brk => some (Fl.nx, wipeS q.2.1 wp, q.2.2)
  | .ret v => some (Fl.ret v, q.2.1, q.2.2)
@[simp] theorem whlK_nx {k : List Sl → S → Option (R3 S)} {wp : List Nat} : whlK k wp (.nx, ρ, s) = k (wipeS ρ wp) s := rfE rfl
@[simp] theorem whlK_cnt {k : List Sl → S → Option (R3 S)} {wp : List Nat} : whlK k wp (.cnt, ρ, s) = k (wipeS ρ wp) s := rfE rfl
@[simp] theorem whlK_brk {k : List Sl → S → Option (R3 S)} {wp : List Nat} : whlK k wp (.brk, ρ, s) = some (Fl.nx, wipeS ρ wp, s) := rfE rfl
@[simp] theorem whlK_ret {k : List Sl → S → Option (R3 S)} {wp : List Nat} {v : W} : whlK k wp (.ret v, ρ, s) = some (Fl.ret v, ρ, s) := rfE rfl
theorem s_whl {c : IE} {b : ISs} {esc wp : List Nat} {p : Pos} : evS F G (.whl c b esc wp p) ρ s = (evE F G c (freeze esc ρ) s).bd fun x => (truW x.1).bd fun r =>
    if r then (evSs F G b ρ x.2).bd (whlK (fun ρ s => evS F G (.whl c b esc wp p) ρ s) wp) else some (.nx, ρ, x.2) := by
  conv => lhs; rw [evS]; rw [iter_eq]
  simp only [Option.bind_assoc]
  congr 1; funext x
  cases truW x.1 with
  | none => rfl
  | some r =>
    cases r with
    | false => rfl
    | true =>
      simp only [Option.bind_some, if_true, Option.bind_assoc]
      congr 1; funext q
      obtain ⟨f, ρ', s'⟩ := q
      cases f with
      | nx => simp [evS, whlK]
      | cnt => simp [evS, whlK]
      | brk => simp [whlK]
      | ret v => simp [whlK]
def forK (wp : List Nat) (q : R3 S) : Option (R3 S) := match q.1 with
  | .nx => some (.nx, wipeS q.2.1 wp, q.2.2)
  | .cnt => some (.nx, wipeS q.2.1 wp, q.2.2)
  | .brk => some (.brk, wipeS q.2.1 wp, q.2.2)
  | .ret v => some (.ret v, q.2.1, q.2.2)
@[simp] theorem forK_nx {wp : List Nat} : forK wp (.nx, ρ, s) = some (.nx, wipeS ρ wp, s) := rfE rfl
@[simp] theorem forK_cnt {wp : List Nat} : forK wp (.cnt, ρ, s) = some (.nx, wipeS ρ wp, s) := rfE rfl
@[simp] theorem forK_brk {wp : List Nat} : forK wp (.brk, ρ, s) = some (.brk, wipeS ρ wp, s) := rfE rfl
@[simp] theorem forK_ret {wp : List Nat} {v : W} : forK wp (.ret v, ρ, s) = some (.ret v, ρ, s) := rfE rfl
/-- one turn of a for loop -/
noncomputable def turn (F : Str → List W → S → Option (W × S)) (G : Str → Option W) (tg : IT) (b : ISs) (wp : List Nat) (w : W) (a : List Sl × S) : Option (R3 S) := (asgT tg w a.1).bd fun ρ1 => (evSs F G b ρ1 a.2).bd (forK wp)
@[simp] theorem s_for {tg : IT} {it : II} {b : ISs} {esc wp : List Nat} {p : Pos} : evS F G (.for_ tg it b esc wp p) ρ s = (evI F G false it (freeze esc ρ) s).bd fun x => forGo (turn F G tg b wp) x.1 (freeze esc ρ, x.2) := by
  simp only [evS, Option.bd]; rfl
def forN (k : List Sl × S → Option (R3 S)) (r : R3 S) : Option (R3 S) := match r.1 with
    | .nx => k r.2
    | .cnt => k r.2
    | .brk => some (.nx, r.2)
    | .ret v => some (.ret v, r.2)
@[simp] theorem forN_nx {k : List Sl × S → Option (R3 S)} : forN k (.nx, ρ, s) = k (ρ, s) := rfE rfl
@[simp] theorem forN_brk {k : List Sl × S → Option (R3 S)} : forN k (.brk, ρ, s) = some (.nx, ρ, s) := rfE rfl
@[simp] theorem forN_ret {k : List Sl × S → Option (R3 S)} {v : W} : forN k (.ret v, ρ, s) = some (.ret v, ρ, s) := rfE rfl
@[simp] theorem forGo_nil {f : W → List Sl × S → Option (R3 S)} : forGo f [] (ρ, s) = some (.nx, ρ, s) := rfE rfl
@[simp] theorem forGo_cons {f : W → List Sl × S → Option (R3 S)} {w : W} {l : List W} {a : List Sl × S} : forGo f (w :: l) a = (f w a).bd (forN (forGo f l)) := rfE rfl
@[simp] theorem wipe_nil : wipeS ρ [] = ρ := rfE rfl
@[simp] theorem wipe_cons {v : Nat} {vs : List Nat} : wipeS ρ (v :: vs) = (wipeS ρ vs).set v .no := rfE rfl
/-- a loop whose turns leave the slots as they were -/
theorem forGo_inv {f : W → List Sl × S → Option (R3 S)} {ρ : List Sl} : ∀ (l : List W), (∀ w ∈ l, ∀ s, ∃ s', f w (ρ, s) = some (.nx, ρ, s')) → ∀ s, ∃ s', forGo f l (ρ, s) = some (.nx, ρ, s')
  | [], _, s => ⟨s, rfl⟩
  | w :: l, h, s => by
    obtain ⟨s1, h1⟩ := h w (List.mem_cons_self ..) s
    obtain ⟨s2, h2⟩ := forGo_inv l (fun w hw => h w (List.mem_cons_of_mem _ hw)) s1
    exact ⟨s2, by rw [forGo_cons, h1]; exact h2⟩
def retF : R3 S → Option (W × S) := fun r => match r.1 with
    | .nx => some (.non, r.2.2)
    | .ret w => some (w, r.2.2)
    | _ => none
@[simp] theorem retF_ret {w : W} : retF (Fl.ret w, ρ, s) = some (w, s) := rfE rfl
@[simp] theorem retF_nx : retF (Fl.nx, ρ, s) = some (.non, s) := rfE rfl
@[simp] theorem f_ev {n N : Nat} {b : ISs} {ws : List W} (h : ws.length = n) : evF F G n N b ws s = (evSs F G b (ws.map Sl.val ++ List.replicate (N - n) .no) s).bd retF := by
  unfold evF; rw [if_pos h]; rfl
end
@[simp] theorem le_line {n : Nat} (h : n ≤ 1000) : n ≤ sizeLine := Nat.le_of_lt (small1000 h)
@[simp] theorem lt_line {n : Nat} (h : n ≤ 1000) : n < sizeLine := small1000 h
/-! values -/
@[simp] theorem cst_none : cstW .none = some .non := rfE rfl
@[simp] theorem cst_bool {b : Bool} : cstW (.bool b) = some (.bl b) := rfE rfl
@[simp] theorem cst_int {i : Int} : cstW (.int i) = some (.int i) := rfE rfl
@[simp] theorem cst_str {x : Str} : cstW (.str x) = some (.str x) := rfE rfl
@[simp] theorem bin_add {i j : Int} : binW .Add (.int i) (.int j) = some (.int (i + j)) := rfE rfl
@[simp] theorem bin_sub {i j : Int} : binW .Sub (.int i) (.int j) = some (.int (i - j)) := rfE rfl
@[simp] theorem bin_mul {i j : Int} {n m : Nat} [SzI i n] [SzI j m] (h : n + m < 1000000) : binW .Mult (.int i) (.int j) = some (.int (i * j)) := if_pos (okMul_of h)
theorem bin_fdiv {i j : Int} (h : okDiv i j) : binW .FloorDiv (.int i) (.int j) = some (.int (i.fdiv j)) := if_pos h
theorem bin_mod {i j : Int} (h : j ≠ 0) : binW .Mod (.int i) (.int j) = some (.int (i.fmod j)) := if_pos h
@[simp] theorem bin_ll {x y : List W} (h : x.length + y.length ≤ sizeLine) : binW .Add (.lst x) (.lst y) = some (.lst (x ++ y)) := if_pos h
@[simp] theorem bin_tt {x y : List W} (h : x.length + y.length ≤ sizeLine) : binW .Add (.tup x) (.tup y) = some (.tup (x ++ y)) := if_pos h
@[simp] theorem tru_bl {b : Bool} : truW (.bl b) = some b := rfE rfl
@[simp] theorem tru_int {i : Int} : truW (.int i) = some (i != 0) := rfE rfl
@[simp] theorem tru_non : truW .non = some false := rfE rfl
@[simp] theorem cmp_lt {i j : Int} : cmpW .Lt (.int i) (.int j) = some (decide (i < j)) := rfE rfl
@[simp] theorem cmp_le {i j : Int} : cmpW .LtE (.int i) (.int j) = some (decide (i ≤ j)) := rfE rfl
@[simp] theorem cmp_gt {i j : Int} : cmpW .Gt (.int i) (.int j) = some (decide (j < i)) := rfE rfl
@[simp] theorem cmp_ge {i j : Int} : cmpW .GtE (.int i) (.int j) = some (decide (j ≤ i)) := rfE rfl
open Classical in
@[simp] theorem cmp_eq {a b : W} (ha : plD a 60 = true) (hb : plD b 60 = true) : cmpW .Eq a b = some (decide (a = b)) := by
  show eqW a b = _
  exact eqW_pl ha hb
open Classical in
@[simp] theorem cmp_ne {a b : W} (ha : plD a 60 = true) (hb : plD b 60 = true) : cmpW .NotEq a b = some (!decide (a = b)) := by
  show (eqW a b).map _ = _
  rw [eqW_pl ha hb]; rfl
open Classical in
theorem any_pl {a : W} (ha : plD a 60 = true) {n : Nat} : ∀ {l : List W}, plDs l n = true → (l.any fun z => PyData.eqv (toD z) (toD a)) = decide (a ∈ l)
  | [], _ => by simp
  | w :: l, h => by
    simp only [plDs, Bool.and_eq_true] at h
    have h1 := eqv_pl w a n 60 h.1 ha
    rw [List.any_cons, any_pl ha h.2]
    by_cases e : w = a
    · rw [h1.mpr e, e]; simp
    · have h2 : PyData.eqv (toD w) (toD a) = false := by
        cases z : PyData.eqv (toD w) (toD a)
        · rfl
        · exact absurd (h1.mp z) e
      rw [h2]
      have e' : ¬ a = w := fun z => e z.symm
      simp [e']
theorem cmpable_pl {a : W} (ha : plD a 60 = true) : cmpable a = true := by
  have h1 := plD_ok a 60 ha
  unfold cmpable SeqAt.shaped
  simp [h1]; omega
open Classical in
theorem inW_t {a : W} {l : List W} (ha : plD a 60 = true) (hl : plDs l 59 = true) : inW a (.tup l) = some (decide (a ∈ l)) := by
  show (if (cmpable a && cmpable (.tup l)) = true then some (l.any fun z => PyData.eqv (toD z) (toD a)) else none) = _
  rw [cmpable_pl ha, cmpable_pl (a := .tup l) (by simpa [plD] using hl)]
  rw [any_pl ha hl]; rfl
open Classical in
theorem inW_l {a : W} {l : List W} (ha : plD a 60 = true) (hl : plDs l 59 = true) : inW a (.lst l) = some (decide (a ∈ l)) := by
  show (if (cmpable a && cmpable (.lst l)) = true then some (l.any fun z => PyData.eqv (toD z) (toD a)) else none) = _
  rw [cmpable_pl ha, cmpable_pl (a := .lst l) (by simpa [plD] using hl)]
  rw [any_pl ha hl]; rfl
open Classical in
@[simp] theorem cmp_in_t {a : W} {l : List W} (ha : plD a 60 = true) (hl : plDs l 59 = true) : cmpW .In a (.tup l) = some (decide (a ∈ l)) := inW_t ha hl
open Classical in
@[simp] theorem cmp_in_l {a : W} {l : List W} (ha : plD a 60 = true) (hl : plDs l 59 = true) : cmpW .In a (.lst l) = some (decide (a ∈ l)) := inW_l ha hl
open Classical in
@[simp] theorem cmp_nin_t {a : W} {l : List W} (ha : plD a 60 = true) (hl : plDs l 59 = true) : cmpW .NotIn a (.tup l) = some (!decide (a ∈ l)) := by
  show (inW a _).map _ = _
  rw [inW_t ha hl]; rfl
open Classical in
@[simp] theorem cmp_nin_l {a : W} {l : List W} (ha : plD a 60 = true) (hl : plDs l 59 = true) : cmpW .NotIn a (.lst l) = some (!decide (a ∈ l)) := by
  show (inW a _).map _ = _
  rw [inW_l ha hl]; rfl
@[simp] theorem sum_t3 {i j k : Int} : builtW "sum" [.tup [.int i, .int j, .int k]] = some (.int (i + j + k)) := by
  rw [builtW_sum]
  show some (W.int (List.sum [i, j, k])) = _
  rw [show List.sum [i, j, k] = i + j + k from by simp; omega]
@[simp] theorem rep_t {a : W} {l : List W} {k : Int} (h : 2 ≤ k ∧ k < 1000) (hl : l.length ≤ 50) : binW .Mult (.tup (a :: l)) (.int k) = some (.tup (List.replicate k.toNat (a :: l)).flatten) := if_pos ⟨by simp, h.1, by omega, by rw [List.length_cons]; omega⟩
@[simp] theorem rep_l {l : List W} {k : Int} (h : 0 ≤ k ∧ k < 1000) (hl : l.length ≤ 50) : binW .Mult (.lst l) (.int k) = some (.lst (List.replicate k.toNat l).flatten) := by
  refine if_pos ⟨h.1, h.2, ?_⟩
  have h2 : l.length * k.toNat ≤ 50 * 1000 := Nat.mul_le_mul hl (by omega)
  exact Nat.le_trans h2 (by decide)
theorem eqW_bl (a b : Bool) : eqW (.bl a) (.bl b) = some (a == b) := by cases a <;> cases b <;> rfl
@[simp] theorem cmp_eq_bl {a b : Bool} : cmpW .Eq (.bl a) (.bl b) = some (a == b) := eqW_bl a b
@[simp] theorem cmp_ne_bl {a b : Bool} : cmpW .NotEq (.bl a) (.bl b) = some (!(a == b)) := by
  show (eqW (.bl a) (.bl b)).map (!·) = _
  rw [eqW_bl]; rfl
open Classical in
@[simp 500] theorem cmp_eq_b {a b : W} (ha : plB a 60 = true) (hb : plB b 60 = true) : cmpW .Eq a b = some (decide (nb a = nb b)) := by
  show eqW a b = _
  exact eqW_pb ha hb
open Classical in
@[simp 500] theorem cmp_ne_b {a b : W} (ha : plB a 60 = true) (hb : plB b 60 = true) : cmpW .NotEq a b = some (!decide (nb a = nb b)) := by
  show (eqW a b).map _ = _
  rw [eqW_pb ha hb]; rfl
@[simp] theorem nbI_inj' {a b : Bool} : (nbI a = nbI b) = (a = b) := nbI_inj
@[simp] theorem nb_non : nb .non = .non := rfE rfl
@[simp] theorem nb_int {i : Int} : nb (.int i) = .int i := rfE rfl
@[simp] theorem nb_bl {b : Bool} : nb (.bl b) = .int (nbI b) := rfE rfl
@[simp] theorem nb_str {x : Str} : nb (.str x) = .str x := rfE rfl
@[simp] theorem nb_tup {l : List W} : nb (.tup l) = .tup (nbs l) := by simp only [nb]
@[simp] theorem nb_lst {l : List W} : nb (.lst l) = .lst (nbs l) := by simp only [nb]
@[simp] theorem nbs_nil : nbs [] = [] := rfE rfl
@[simp] theorem nbs_cons {w : W} {l : List W} : nbs (w :: l) = nb w :: nbs l := by simp only [nbs]
@[simp] theorem nb_fr {x : Rat} : nb (fr x) = fr x := by simp only [fr, nb, nbs]
@[simp] theorem plB_non {n : Nat} : plB .non n = true := by cases n <;> rfl
@[simp] theorem plB_int {i : Int} {n : Nat} : plB (.int i) n = true := by cases n <;> rfl
@[simp] theorem plB_bl {b : Bool} {n : Nat} : plB (.bl b) n = true := by cases n <;> rfl
@[simp] theorem plBs_nil {n : Nat} : plBs [] n = true := by cases n <;> rfl
@[simp] theorem plBs_cons {w : W} {l : List W} {n : Nat} : plBs (w :: l) n = (plB w n && plBs l n) := by cases n <;> simp [plBs]
@[simp] theorem plB_tup60 {l : List W} : plB (.tup l) 60 = plBs l 59 := rfE rfl
@[simp] theorem plB_lst60 {l : List W} : plB (.lst l) 60 = plBs l 59 := rfE rfl
@[simp] theorem plB_fr60 {x : Rat} : plB (fr x) 60 = true := rfE rfl
@[simp] theorem plB_tup59 {l : List W} : plB (.tup l) 59 = plBs l 58 := rfE rfl
@[simp] theorem plB_lst59 {l : List W} : plB (.lst l) 59 = plBs l 58 := rfE rfl
@[simp] theorem plB_fr59 {x : Rat} : plB (fr x) 59 = true := rfE rfl
@[simp] theorem plB_tup58 {l : List W} : plB (.tup l) 58 = plBs l 57 := rfE rfl
@[simp] theorem plB_lst58 {l : List W} : plB (.lst l) 58 = plBs l 57 := rfE rfl
@[simp] theorem plB_fr58 {x : Rat} : plB (fr x) 58 = true := rfE rfl
@[simp] theorem plB_tup57 {l : List W} : plB (.tup l) 57 = plBs l 56 := rfE rfl
@[simp] theorem plB_lst57 {l : List W} : plB (.lst l) 57 = plBs l 56 := rfE rfl
@[simp] theorem plB_fr57 {x : Rat} : plB (fr x) 57 = true := rfE rfl
@[simp] theorem plB_tup56 {l : List W} : plB (.tup l) 56 = plBs l 55 := rfE rfl
@[simp] theorem plB_lst56 {l : List W} : plB (.lst l) 56 = plBs l 55 := rfE rfl
@[simp] theorem plB_fr56 {x : Rat} : plB (fr x) 56 = true := rfE rfl
@[simp] theorem plB_tup55 {l : List W} : plB (.tup l) 55 = plBs l 54 := rfE rfl
@[simp] theorem plB_lst55 {l : List W} : plB (.lst l) 55 = plBs l 54 := rfE rfl
@[simp] theorem plB_fr55 {x : Rat} : plB (fr x) 55 = true := rfE rfl
@[simp] theorem cmp_is_bl {a b : Bool} : cmpW .Is (.bl a) (.bl b) = some (decide (a = b)) := rfE rfl
@[simp] theorem cmp_isnot_bl {a b : Bool} : cmpW .IsNot (.bl a) (.bl b) = some (!decide (a = b)) := rfE rfl
@[simp] theorem cmp_is_non {a : W} : cmpW .Is a .non = some (isNon a) := by cases a <;> rfl
@[simp] theorem cmp_isnot_non {a : W} : cmpW .IsNot a .non = some (!isNon a) := by cases a <;> rfl
@[simp] theorem isNon_non : isNon .non = true := rfE rfl
@[simp] theorem isNon_tup {l : List W} : isNon (.tup l) = false := rfE rfl
@[simp] theorem isNon_lst {l : List W} : isNon (.lst l) = false := rfE rfl
@[simp] theorem isNon_int {i : Int} : isNon (.int i) = false := rfE rfl
@[simp] theorem isNon_fr {x : Rat} : isNon (fr x) = false := rfE rfl
@[simp] theorem plD_non {n : Nat} : plD .non n = true := by cases n <;> rfl
@[simp] theorem plD_int {i : Int} {n : Nat} : plD (.int i) n = true := by cases n <;> rfl
theorem plD_tup {l : List W} {n : Nat} : plD (.tup l) (n + 1) = plDs l n := rfl
theorem plD_lst {l : List W} {n : Nat} : plD (.lst l) (n + 1) = plDs l n := rfl
@[simp] theorem plDs_nil {n : Nat} : plDs [] n = true := by cases n <;> rfl
@[simp] theorem plDs_cons {w : W} {l : List W} {n : Nat} : plDs (w :: l) n = (plD w n && plDs l n) := by cases n <;> simp [plDs]
@[simp] theorem plD_tup60 {l : List W} : plD (.tup l) 60 = plDs l 59 := rfE rfl
@[simp] theorem plD_lst60 {l : List W} : plD (.lst l) 60 = plDs l 59 := rfE rfl
@[simp] theorem plD_fr60 {x : Rat} : plD (fr x) 60 = true := rfE rfl
@[simp] theorem plD_tup59 {l : List W} : plD (.tup l) 59 = plDs l 58 := rfE rfl
@[simp] theorem plD_lst59 {l : List W} : plD (.lst l) 59 = plDs l 58 := rfE rfl
@[simp] theorem plD_fr59 {x : Rat} : plD (fr x) 59 = true := rfE rfl
@[simp] theorem plD_tup58 {l : List W} : plD (.tup l) 58 = plDs l 57 := rfE rfl
@[simp] theorem plD_lst58 {l : List W} : plD (.lst l) 58 = plDs l 57 := rfE rfl
@[simp] theorem plD_fr58 {x : Rat} : plD (fr x) 58 = true := rfE rfl
@[simp] theorem plD_tup57 {l : List W} : plD (.tup l) 57 = plDs l 56 := rfE rfl
@[simp] theorem plD_lst57 {l : List W} : plD (.lst l) 57 = plDs l 56 := rfE rfl
@[simp] theorem plD_fr57 {x : Rat} : plD (fr x) 57 = true := rfE rfl
@[simp] theorem plD_tup56 {l : List W} : plD (.tup l) 56 = plDs l 55 := rfE rfl
@[simp] theorem plD_lst56 {l : List W} : plD (.lst l) 56 = plDs l 55 := rfE rfl
@[simp] theorem plD_fr56 {x : Rat} : plD (fr x) 56 = true := rfE rfl
@[simp] theorem plD_tup55 {l : List W} : plD (.tup l) 55 = plDs l 54 := rfE rfl
@[simp] theorem plD_lst55 {l : List W} : plD (.lst l) 55 = plDs l 54 := rfE rfl
@[simp] theorem plD_fr55 {x : Rat} : plD (fr x) 55 = true := rfE rfl
@[simp] theorem r_zadd {x : Rat} : 0 + x = x := Rat.zero_add x
@[simp] theorem r_addz {x : Rat} : x + 0 = x := Rat.add_zero x
@[simp] theorem natc_1 {n : Nat} : (((n : Nat) : Int) = 1) = (n = 1) := by apply propext; omega
theorem plDs_map {α : Type} {enc : α → W} {n : Nat} {l : List α} (h : ∀ a ∈ l, plD (enc a) n = true) : plDs (l.map enc) n = true := by
  induction l with
  | nil => simp
  | cons a l ih => simp [h a (List.mem_cons_self ..), ih fun b hb => h b (List.mem_cons_of_mem _ hb)]
@[simp] theorem plDs_ints {n : Nat} {l : List Int} : plDs (l.map W.int) n = true := plDs_map fun a _ => plD_int
theorem map_int_inj {l m : List Int} : l.map W.int = m.map W.int ↔ l = m := by
  constructor
  · intro h
    induction l generalizing m with
    | nil => cases m <;> simp_all
    | cons a l ih => cases m with
      | nil => simp at h
      | cons b m => simp at h; rw [h.1, ih h.2]
  · intro h; rw [h]
@[simp] theorem map_int_inj' {l m : List Int} : (l.map W.int = m.map W.int) = (l = m) := propext map_int_inj
theorem plD_frS {x : Rat} {n : Nat} : plD (fr x) (n + 1) = true := rfl
@[simp] theorem fr_inj' {x y : Rat} : (fr x = fr y) = (x = y) := propext fr_inj
@[simp] theorem flats_nil : flats [] = true := rfE rfl
@[simp] theorem flats_cons {w : W} {l : List W} : flats (w :: l) = (flat w && flats l) := by simp only [flats]
@[simp] theorem flat_tup {l : List W} : flat (.tup l) = flats l := by simp only [flat]
@[simp] theorem flat_lst {l : List W} : flat (.lst l) = false := rfE rfl
@[simp] theorem flat_fr {x : Rat} : flat (fr x) = true := rfE rfl
@[simp] theorem flat_int {x : Int} : flat (.int x) = true := rfE rfl
@[simp] theorem flat_bl {x : Bool} : flat (.bl x) = true := rfE rfl
@[simp] theorem flat_str {x : Str} : flat (.str x) = true := rfE rfl
@[simp] theorem flat_non : flat .non = true := rfE rfl
@[simp] theorem idx_lst {l : List W} {i : Int} : idxW (.lst l) (.int i) = atI l i := rfE rfl
@[simp] theorem idx_tup {l : List W} {i : Int} : idxW (.tup l) (.int i) = atI l i := rfE rfl
@[simp] theorem idx_f0 {x : Rat} : idxW (fr x) (.int 0) = some (.int x.num) := rfE rfl
@[simp] theorem idx_f1 {x : Rat} : idxW (fr x) (.int 1) = some (.int x.den) := rfE rfl
@[simp] theorem at_0 {α : Type} {a : α} {l : List α} : atI (a :: l) 0 = some a := atI_nat (j := 0) rfl
@[simp] theorem at_1 {α : Type} {a b : α} {l : List α} : atI (a :: b :: l) 1 = some b := atI_nat (j := 1) rfl
@[simp] theorem at_2 {α : Type} {a b c : α} {l : List α} : atI (a :: b :: c :: l) 2 = some c := atI_nat (j := 2) rfl
@[simp] theorem at_3 {α : Type} {a b c d : α} {l : List α} : atI (a :: b :: c :: d :: l) 3 = some d := atI_nat (j := 3) rfl
@[simp] theorem at_4 {α : Type} {a b c d e : α} {l : List α} : atI (a :: b :: c :: d :: e :: l) 4 = some e := atI_nat (j := 4) rfl
@[simp] theorem at_5 {α : Type} {a b c d e f : α} {l : List α} : atI (a :: b :: c :: d :: e :: f :: l) 5 = some f := atI_nat (j := 5) rfl
@[simp] theorem at_6 {α : Type} {a b c d e f g : α} {l : List α} : atI (a :: b :: c :: d :: e :: f :: g :: l) 6 = some g := atI_nat (j := 6) rfl
@[simp] theorem at_7 {α : Type} {a b c d e f g h : α} {l : List α} : atI (a :: b :: c :: d :: e :: f :: g :: h :: l) 7 = some h := atI_nat (j := 7) rfl
@[simp] theorem at_8 {α : Type} {a b c d e f g h i : α} {l : List α} : atI (a :: b :: c :: d :: e :: f :: g :: h :: i :: l) 8 = some i := atI_nat (j := 8) rfl
@[simp] theorem at_9 {α : Type} {a b c d e f g h i k : α} {l : List α} : atI (a :: b :: c :: d :: e :: f :: g :: h :: i :: k :: l) 9 = some k := atI_nat (j := 9) rfl
@[simp] theorem at_10 {α : Type} {a b c d e f g h i k m : α} {l : List α} : atI (a :: b :: c :: d :: e :: f :: g :: h :: i :: k :: m :: l) 10 = some m := atI_nat (j := 10) rfl
@[simp] theorem at_11 {α : Type} {a b c d e f g h i k m n : α} {l : List α} : atI (a :: b :: c :: d :: e :: f :: g :: h :: i :: k :: m :: n :: l) 11 = some n := atI_nat (j := 11) rfl
@[simp] theorem isOr_or : isOr .Or = true := rfE rfl
@[simp] theorem isOr_and : isOr .And = false := rfE rfl
@[simp] theorem b_gcd {i j : Int} : builtW "gcd" [.int i, .int j] = some (.int (Nat.gcd i.natAbs j.natAbs : Nat)) := by rw [builtW_gcd]; rfl
@[simp] theorem b_abs {i : Int} : builtW "abs" [.int i] = some (.int (if i < 0 then -i else i)) := by rw [builtW_abs]; rfl
@[simp] theorem b_max {i j : Int} : builtW "max" [.int i, .int j] = some (.int (if i < j then j else i)) := by rw [builtW_max]; rfl
@[simp] theorem b_min {i j : Int} : builtW "min" [.int i, .int j] = some (.int (if j < i then j else i)) := by rw [builtW_min]; rfl
@[simp] theorem b_suml {l : List W} : builtW "sum" [.lst l] = (intsOf l).map fun ns => .int ns.sum := by rw [builtW_sum]; rfl
@[simp] theorem b_sumt {l : List W} : builtW "sum" [.tup l] = (intsOf l).map fun ns => .int ns.sum := by rw [builtW_sum]; rfl
@[simp] theorem ints_nil : intsOf [] = some [] := rfE rfl
@[simp] theorem ints_cons {i : Int} {l : List W} : intsOf (.int i :: l) = (intsOf l).map fun ns => i :: ns := by simp only [intsOf]
@[simp] theorem b_anyl {l : List W} : builtW "any" [.lst l] = (flagsW l).map fun bs => .bl (bs.any id) := by rw [builtW_any]; rfl
@[simp] theorem b_anyt {l : List W} : builtW "any" [.tup l] = (flagsW l).map fun bs => .bl (bs.any id) := by rw [builtW_any]; rfl
@[simp] theorem b_alll {l : List W} : builtW "all" [.lst l] = (flagsW l).map fun bs => .bl (bs.all id) := by rw [builtW_all]; rfl
@[simp] theorem b_allt {l : List W} : builtW "all" [.tup l] = (flagsW l).map fun bs => .bl (bs.all id) := by rw [builtW_all]; rfl
@[simp] theorem flags_nil : flagsW [] = some [] := rfE rfl
@[simp] theorem flags_bl {b : Bool} {l : List W} : flagsW (.bl b :: l) = (flagsW l).map (b :: ·) := by simp only [flagsW]
@[simp] theorem flags_int {i : Int} {l : List W} : flagsW (.int i :: l) = (flagsW l).map ((i != 0) :: ·) := by simp only [flagsW]
@[simp] theorem flags_non {l : List W} : flagsW (.non :: l) = (flagsW l).map (false :: ·) := by simp only [flagsW]
theorem flags_map {α : Type} {f : α → Bool} {l : List α} : flagsW (l.map fun x => W.bl (f x)) = some (l.map f) := by
  induction l with
  | nil => rfl
  | cons a l ih => rw [List.map_cons, flags_bl, ih]; rfl
@[simp] theorem b_int {i : Int} : builtW "int" [.int i] = some (.int i) := by rw [builtW_int]; rfl
@[simp] theorem b_tupl {l : List W} : builtW "tuple" [.lst l] = some (.tup l) := by rw [builtW_tuple]; rfl
@[simp] theorem b_tupt {l : List W} : builtW "tuple" [.tup l] = some (.tup l) := by rw [builtW_tuple]; rfl
@[simp] theorem b_listl {l : List W} : builtW "list" [.lst l] = some (.lst l) := by rw [builtW_list]; rfl
@[simp] theorem b_listt {l : List W} : builtW "list" [.tup l] = some (.lst l) := by rw [builtW_list]; rfl
@[simp] theorem b_lenl {l : List W} : builtW "len" [.lst l] = some (.int l.length) := by rw [builtW_len]; rfl
@[simp] theorem b_lent {l : List W} : builtW "len" [.tup l] = some (.int l.length) := by rw [builtW_len]; rfl
@[simp] theorem i_bbl {b : Bool} : isiT "bool" (.bl b) = some true := by rw [isiT_bool]; rfl
@[simp] theorem tup_fr' {i : Int} : W.tup [.int i, .int 1] = fr (i : Rat) := rfE rfl
def zipO : W → W → Option (List W)
  | .lst l, .lst m => some (List.zipWith (fun u v => W.tup [u, v]) l m)
  | .tup l, .tup m => some (List.zipWith (fun u v => W.tup [u, v]) l m)
  | .tup l, .lst m => some (List.zipWith (fun u v => W.tup [u, v]) l m)
  | .lst l, .tup m => some (List.zipWith (fun u v => W.tup [u, v]) l m)
  | _, _ => none
@[simp] theorem zipO_ll {l m : List W} : zipO (.lst l) (.lst m) = some (List.zipWith (fun u v => W.tup [u, v]) l m) := rfE rfl
@[simp] theorem zipO_tl {l m : List W} : zipO (.tup l) (.lst m) = some (List.zipWith (fun u v => W.tup [u, v]) l m) := rfE rfl
@[simp] theorem zipO_lt {l m : List W} : zipO (.lst l) (.tup m) = some (List.zipWith (fun u v => W.tup [u, v]) l m) := rfE rfl
@[simp] theorem zipO_tt {l m : List W} : zipO (.tup l) (.tup m) = some (List.zipWith (fun u v => W.tup [u, v]) l m) := rfE rfl
theorem strOk_of (x : String) : PyData.canLay0 (.str (Str.ofString x)) = true := by
  show PyData.strOk (Str.ofString x) = true
  rw [Str.ofString_eq_toList]
  unfold PyData.strOk
  rw [Array.all_eq_true]
  intro i hi
  rw [List.getElem_toArray, List.getElem_map, decide_eq_true_eq]
  generalize x.toList[i]'_ = c
  rcases c.valid with h | ⟨_, h⟩
  · exact Nat.lt_of_lt_of_le h (by decide)
  · exact h
theorem ofS_inj {x y : String} : (Str.ofString x = Str.ofString y) = (x = y) := by
  apply propext
  constructor
  · intro h
    rw [Str.ofString_eq_toList, Str.ofString_eq_toList] at h
    have h1 : (x.toList.map Char.toNat) = (y.toList.map Char.toNat) := by
      injection h with h
      exact (List.toArray_inj h)
    have h2 : x.toList = y.toList := by
      revert h1
      generalize x.toList = a
      generalize y.toList = b
      intro h1
      induction a generalizing b with
      | nil => cases b <;> simp_all
      | cons c r ih =>
        cases b with
        | nil => simp at h1
        | cons d r' =>
          simp only [List.map_cons, List.cons.injEq] at h1
          rw [ih r' h1.2, Char.toNat_inj.mp h1.1]
    exact String.toList_inj.mp h2
  · intro h; rw [h]
@[simp] theorem ofS_inj' {x y : String} : (Str.ofString x = Str.ofString y) = (x = y) := ofS_inj
@[simp] theorem plD_str {x : String} {n : Nat} : plD (.str (Str.ofString x)) n = true := by
  have h := strOk_of x
  cases n <;> simpa [plD] using h
@[simp] theorem e_zip {S : Type} {F : Str → List W → S → Option (W × S)} {G : Str → Option W} {ρ : List Sl} {s : S} {b : Bool} {a c : IE} {pf p : Pos} : evI F G b (.zip a c pf p) ρ s = (orB (if b then lent a ρ else none) s (evE F G a ρ s)).bd fun x => (orB (if b then lent c ρ else none) x.2 (evE F G c ρ x.2)).bd fun y => (zipO x.1 y.1).map fun l => (l, y.2) := by
  simp only [evI, Option.bd]; congr 1; funext x; congr 1; funext y; unfold zipO; split <;> simp_all
@[simp] theorem cmp_gt1 {i j : Int} : cmpW .Gt (.lst [.int i]) (.lst [.int j]) = some (decide (j < i)) := by
  have h : alk (.lst [.int i]) (.lst [.int j]) = true := rfl
  have e : PySem.W.dataLt (toD (.lst [.int j])) (toD (.lst [.int i])) = decide (j < i) := by
    unfold PySem.W.dataLt
    simp [toD, toDs, PySem.W.keyToks, PySem.W.keyToksAll, PyProof.Rows.lexLt, PyProof.Rows.itemLt]
  show (if alk (.lst [.int i]) (.lst [.int j]) then some (PySem.W.dataLt (toD (.lst [.int j])) (toD (.lst [.int i]))) else none) = _
  rw [h, e]; rfl
section
variable {S : Type} {F : Str → List W → S → Option (W × S)} {G : Str → Option W} {ρ ρ0 : List Sl} {s : S} {wp : List Nat}
/-- a turn's end: the slots as they were -/
def DoneW (wp : List Nat) (ρ0 : List Sl) (o : Option (R3 S)) : Prop := ∃ ρ s', o = some (.nx, ρ, s') ∧ wipeS ρ wp = ρ0
def DoneI (wp : List Nat) (I : List Sl → Prop) (o : Option (R3 S)) : Prop := ∃ ρ s', o = some (.nx, ρ, s') ∧ I (wipeS ρ wp)
theorem doneI_end {I : List Sl → Prop} (h : I (wipeS ρ wp)) : DoneI wp I (some (.nx, ρ, s)) := ⟨ρ, s, rfl, h⟩
theorem doneW_end (h : wipeS ρ wp = ρ0) : DoneW wp ρ0 (some (.nx, ρ, s)) := ⟨ρ, s, rfl, h⟩
theorem turns_ok {i : Nat} {x : Str} {px : Pos} {b : ISs} (l : List W) (h : ∀ w s, DoneW wp ρ0 (evSs F G b (ρ0.set i (.val w)) s)) (s : S) : ∃ s', forGo (turn F G (.name i x px) b wp) l (ρ0, s) = some (.nx, ρ0, s') := by
  refine forGo_inv l (fun w _ s => ?_) s
  obtain ⟨ρ, s', e, hw⟩ := h w s
  refine ⟨s', ?_⟩
  unfold turn
  rw [asg_name, bd_some]
  show (evSs F G b (ρ0.set i (.val w)) s).bd _ = _
  rw [e, bd_some, forK_nx, hw]
/-- a loop that keeps a promise about the slots -/
theorem turns_rel {I : List Sl → Prop} {i : Nat} {x : Str} {px : Pos} {b : ISs} : ∀ (l : List W) (h : ∀ w ∈ l, ∀ ρ s, I ρ → DoneI wp I (evSs F G b (ρ.set i (.val w)) s)) (ρ : List Sl) (s : S), I ρ → ∃ ρ' s', forGo (turn F G (.name i x px) b wp) l (ρ, s) = some (.nx, ρ', s') ∧ I ρ'
  | [], h, ρ, s, h0 => ⟨ρ, s, rfl, h0⟩
  | w :: l, h, ρ, s, h0 => by
    obtain ⟨ρ1, s1, e, hw⟩ := h w (List.mem_cons_self ..) ρ s h0
    obtain ⟨ρ2, s2, e2, h2⟩ := turns_rel l (fun w' hw' => h w' (List.mem_cons_of_mem _ hw')) _ s1 hw
    refine ⟨ρ2, s2, ?_, h2⟩
    rw [forGo_cons, ← e2]
    unfold turn
    rw [asg_name, bd_some]
    show ((evSs F G b (ρ.set i (.val w)) s).bd _).bd _ = _
    rw [e, bd_some, forK_nx, bd_some, forN_nx]
end
end MP

/-! EQ: values compared part by part, as the later laws do. -/
namespace MP
open PySem PySem.Spec PyProof.Rows L2
theorem okEs_mem : ∀ {l : List W}, okEs l = true → ∀ w ∈ l, okE w = true
  | x :: l, h, w, hw => by
    rw [okEs, Bool.and_eq_true] at h
    rcases List.mem_cons.mp hw with rfl | hw
    · exact h.1
    · exact okEs_mem h.2 w hw
theorem deps_mem : ∀ {l : List W} {n : Nat}, deps l ≤ n → ∀ w ∈ l, dep w ≤ n
  | x :: l, n, h, w, hw => by
    rw [deps] at h
    rcases List.mem_cons.mp hw with rfl | hw
    · omega
    · exact deps_mem (by omega) w hw
theorem plDs_intsW {n : Nat} : ∀ {l : List W}, (∀ w ∈ l, ∃ i, w = .int i) → plDs l n = true
  | [], _ => plDs_nil
  | w :: l, h => by
    obtain ⟨i, rfl⟩ := h w (by simp)
    rw [plDs_cons, plD_int, Bool.true_and]
    exact plDs_intsW fun w hw => h w (by simp [hw])
open Classical in
/-- the places at which two lists differ -/
noncomputable def difs (l m : List W) : List W := (List.range m.length).filterMap fun i => if l[i]? = m[i]? then none else some (.int ((i : Nat) : Int))
theorem difs_int {l m : List W} : ∀ w ∈ difs l m, ∃ i, w = .int i := by
  intro w hw
  unfold difs at hw
  obtain ⟨i, _, h⟩ := List.mem_filterMap.mp hw
  split at h
  · cases h
  · cases h; exact ⟨_, rfl⟩
theorem difs_nil {l m : List W} (hl : l.length = m.length) : difs l m = [] ↔ l = m := by
  unfold difs
  rw [List.filterMap_eq_nil_iff]
  constructor
  · intro h
    apply List.ext_getElem?
    intro i
    rcases Nat.lt_or_ge i m.length with z | z
    · have := h i (List.mem_range.mpr z)
      split at this
      · assumption
      · cases this
    · rw [List.getElem?_eq_none z, List.getElem?_eq_none (by omega)]
  · rintro rfl i _
    exact if_pos rfl
theorem plD_strOk {t : Str} {n : Nat} (h : PyData.strOk t = true) : plD (.str t) n = true := by
  have h' : PyData.canLay0 (.str t) = true := h
  cases n <;> simpa [plD] using h'
@[simp] theorem okE_non : okE .non = true := by simp only [okE]
@[simp] theorem okE_int {i : Int} : okE (.int i) = true := by simp only [okE]
@[simp] theorem okE_bl {b : Bool} : okE (.bl b) = true := by simp only [okE]
@[simp] theorem okE_str {x : String} : okE (.str (Str.ofString x)) = true := by
  have h : PyData.canLay0 (.str (Str.ofString x)) = true := strOk_of x
  simp only [okE]
  exact h
@[simp] theorem okE_tup {l : List W} : okE (.tup l) = (decide (l.length ≤ 1000) && okEs l) := by simp only [okE]
@[simp] theorem okE_lst {l : List W} : okE (.lst l) = (decide (l.length ≤ 1000) && okEs l) := by simp only [okE]
@[simp] theorem okEs_nil : okEs [] = true := by simp only [okEs]
@[simp] theorem okEs_cons {w : W} {l : List W} : okEs (w :: l) = (okE w && okEs l) := by simp only [okEs]
@[simp] theorem okE_fr {x : Rat} : okE (fr x) = true := by
  show okE (.tup [.int x.num, .int x.den]) = true
  simp
@[simp] theorem dep_non : dep .non = 0 := by simp only [dep]
@[simp] theorem dep_int {i : Int} : dep (.int i) = 0 := by simp only [dep]
@[simp] theorem dep_bl {b : Bool} : dep (.bl b) = 0 := by simp only [dep]
@[simp] theorem dep_str {t : Str} : dep (.str t) = 0 := by simp only [dep]
@[simp] theorem dep_tup {l : List W} : dep (.tup l) = deps l + 1 := by simp only [dep]
@[simp] theorem dep_lst {l : List W} : dep (.lst l) = deps l + 1 := by simp only [dep]
@[simp] theorem deps_nil : deps [] = 0 := by simp only [deps]
@[simp] theorem deps_cons {w : W} {l : List W} : deps (w :: l) = max (dep w) (deps l) := by simp only [deps]
@[simp] theorem dep_fr {x : Rat} : dep (fr x) = 1 := by
  show dep (.tup [.int x.num, .int x.den]) = 1
  simp
section
variable {S : Type} {F : Str → List W → S → Option (W × S)} {G : Str → Option W} {s : S}
theorem fmodN (a b : Nat) : (a : Int).fmod (b : Int) = ((a % b : Nat) : Int) := by
  rw [Int.fmod_eq_emod_of_nonneg _ (by omega)]; rfl
theorem gcd_step {a b : Nat} (h : 0 < b) : Nat.gcd b (a % b) = Nat.gcd a b := by
  rw [Nat.gcd_comm b (a % b), ← Nat.gcd_rec b a, Nat.gcd_comm]
theorem gcd_loop2 {P1 P2 P3 P4 P5 P6 P7 P8 P9 P10 P11 P12 P13 P14 P15 : Pos} : ∀ (k a b : Nat), b ≤ k →
    evS F G (.whl (.cmp (.var 1 "b" P1) .Gt (.cst (.int 0) 0 P2) P3) (.cons (.par [(0, "a", P4), (1, "b", P5)] 0 P6 (.cons (.var 1 "b" P7) (.cons (.bin (.bcall "int" (.cons (.var 0 "a" P8) .nil) P9 P10) .Mod (.var 1 "b" P11) P12) .nil)) 0 P13 [] P14) .nil) [] [] P15) [.val (.int (a : Int)), .val (.int (b : Int))] s =
      some (.nx, [.val (.int ((Nat.gcd a b : Nat) : Int)), .val (.int 0)], s)
  | 0, a, b, h => by
    obtain rfl : b = 0 := by omega
    rw [s_whl]; simp
  | k + 1, a, b, h => by
    by_cases h0 : b = 0
    · subst h0
      rw [s_whl]; simp
    · have ih := gcd_loop2 (P1 := P1) (P2 := P2) (P3 := P3) (P4 := P4) (P5 := P5) (P6 := P6) (P7 := P7) (P8 := P8) (P9 := P9) (P10 := P10) (P11 := P11) (P12 := P12) (P13 := P13) (P14 := P14) (P15 := P15) k b (a % b) (by have := Nat.mod_lt a (show 0 < b by omega); omega)
      rw [gcd_step (by omega)] at ih
      rw [s_whl]
      simp [bin_mod (show (b : Int) ≠ 0 by omega), fmodN, show (0 : Int) < b by omega, show 0 < b by omega]
      simpa using ih
theorem gcd_loop4 {x y : Sl} {P1 P2 P3 P4 P5 P6 P7 P8 P9 P10 P11 P12 P13 P14 P15 : Pos} : ∀ (k a b : Nat), b ≤ k →
    evS F G (.whl (.cmp (.var 3 "b" P1) .Gt (.cst (.int 0) 0 P2) P3) (.cons (.par [(2, "a", P4), (3, "b", P5)] 0 P6 (.cons (.var 3 "b" P7) (.cons (.bin (.bcall "int" (.cons (.var 2 "a" P8) .nil) P9 P10) .Mod (.var 3 "b" P11) P12) .nil)) 0 P13 [] P14) .nil) [] [] P15) [x, y, .val (.int (a : Int)), .val (.int (b : Int))] s =
      some (.nx, [x, y, .val (.int ((Nat.gcd a b : Nat) : Int)), .val (.int 0)], s)
  | 0, a, b, h => by
    obtain rfl : b = 0 := by omega
    rw [s_whl]; simp
  | k + 1, a, b, h => by
    by_cases h0 : b = 0
    · subst h0
      rw [s_whl]; simp
    · have ih := gcd_loop4 (x := x) (y := y) (P1 := P1) (P2 := P2) (P3 := P3) (P4 := P4) (P5 := P5) (P6 := P6) (P7 := P7) (P8 := P8) (P9 := P9) (P10 := P10) (P11 := P11) (P12 := P12) (P13 := P13) (P14 := P14) (P15 := P15) k b (a % b) (by have := Nat.mod_lt a (show 0 < b by omega); omega)
      rw [gcd_step (by omega)] at ih
      rw [s_whl]
      simp [bin_mod (show (b : Int) ≠ 0 by omega), fmodN, show (0 : Int) < b by omega, show 0 < b by omega]
      simpa using ih
theorem abs_nat (i : Int) : (if i < 0 then -i else i) = ((i.natAbs : Nat) : Int) := by split <;> omega
end
end MP

/-! WH: told integers of a row of fractions. -/
namespace MP
open PySem PySem.Spec PyProof.Rows L2
def lowN (l : List Rat) : Nat := l.foldl (fun n x => Nat.lcm n x.den) 1
def rowI (l : List Rat) : List Int := l.map fun x => x.num * ((lowN l / x.den : Nat) : Int)
def gN (r : List Int) : Nat := r.foldl (fun g i => Nat.gcd g i.natAbs) 0
def sgnI (r : List Int) : Bool := match r.filter (· ≠ 0) with
  | i :: _ => decide (0 < i)
  | [] => true
def whole (l : List Rat) : List Int := (rowI l).map fun i => (if sgnI (rowI l) then i else -i) / (gN (rowI l) : Int)
theorem lcm_step (n d : Nat) : ((n : Int) * (d : Int)).fdiv ((Nat.gcd n d : Nat) : Int) = ((Nat.lcm n d : Nat) : Int) := by
  rw [Int.fdiv_eq_ediv_of_nonneg _ (by omega)]
  unfold Nat.lcm
  simp
theorem low_fold_pos : ∀ (l : List Rat) (n : Nat), 0 < n → 0 < l.foldl (fun n x => Nat.lcm n x.den) n
  | [], n, h => h
  | x :: l, n, h => low_fold_pos l _ (Nat.lcm_pos h x.den_pos)
theorem low_pos' (l : List Rat) : 0 < lowN l := low_fold_pos l 1 (by decide)
theorem low_fold_dvd : ∀ (l : List Rat) (n : Nat), n ∣ l.foldl (fun n x => Nat.lcm n x.den) n ∧ ∀ x ∈ l, x.den ∣ l.foldl (fun n x => Nat.lcm n x.den) n
  | [], n => ⟨Nat.dvd_refl _, fun x h => by cases h⟩
  | y :: l, n => by
    obtain ⟨h1, h2⟩ := low_fold_dvd l (Nat.lcm n y.den)
    refine ⟨Nat.dvd_trans (Nat.dvd_lcm_left _ _) h1, fun x hx => ?_⟩
    rcases List.mem_cons.mp hx with rfl | hx
    · exact Nat.dvd_trans (Nat.dvd_lcm_right _ _) h1
    · exact h2 x hx
theorem den_dvd {l : List Rat} {x : Rat} (h : x ∈ l) : x.den ∣ lowN l := (low_fold_dvd l 1).2 x h
theorem lcm_lt {a b n m : Nat} (h : a < 2 ^ n) (g : b < 2 ^ m) (h0 : 0 < b) : Nat.lcm a b < 2 ^ (n + m) := by
  refine Nat.lt_of_le_of_lt ?_ (lt_mul2 h g)
  unfold Nat.lcm
  exact Nat.div_le_self _ _
theorem low_fold_lt {n : Nat} : ∀ (l : List Rat) (k m : Nat), (∀ x ∈ l, Sz x n) → k < 2 ^ m → l.foldl (fun n x => Nat.lcm n x.den) k < 2 ^ (m + n * l.length)
  | [], k, m, _, h => by simpa using h
  | x :: l, k, m, hs, h => by
    have := low_fold_lt l (Nat.lcm k x.den) (m + n) (fun y hy => hs y (List.mem_cons_of_mem _ hy)) (lcm_lt h (hs x (List.mem_cons_self ..)).den x.den_pos)
    rw [List.length_cons, Nat.mul_succ]
    rw [show m + (n * l.length + n) = m + n + n * l.length by omega]
    exact this
theorem low_lt {n : Nat} {l : List Rat} (h : ∀ x ∈ l, Sz x n) : lowN l < 2 ^ (1 + n * l.length) := low_fold_lt l 1 1 h (by decide)
/-- an item of the row is the fraction times the low -/
theorem row_rat {l : List Rat} {x : Rat} (h : x ∈ l) : ((x.num * ((lowN l / x.den : Nat) : Int) : Int) : Rat) = x * (lowN l : Rat) := by
  obtain ⟨k, e⟩ := den_dvd h
  have hd := x.den_pos
  rw [e, Nat.mul_div_cancel_left _ hd]
  have h1 := rat_num x
  have h3 := den_ne' x
  rw [Rat.intCast_mul]
  have : ((x.den * k : Nat) : Rat) = ((x.den : Int) : Rat) * ((k : Int) : Rat) := by
    rw [Rat.natCast_mul]; rfl
  rw [this]
  generalize ((x.den : Int) : Rat) = d at *
  generalize ((k : Int) : Rat) = kk
  generalize (x.num : Rat) = n at *
  grind
theorem gN_fold_dvd : ∀ (r : List Int) (g : Nat), r.foldl (fun g i => Nat.gcd g i.natAbs) g ∣ g ∧ ∀ i ∈ r, r.foldl (fun g i => Nat.gcd g i.natAbs) g ∣ i.natAbs
  | [], g => ⟨Nat.dvd_refl _, fun i h => by cases h⟩
  | j :: r, g => by
    obtain ⟨h1, h2⟩ := gN_fold_dvd r (Nat.gcd g j.natAbs)
    refine ⟨Nat.dvd_trans h1 (Nat.gcd_dvd_left _ _), fun i hi => ?_⟩
    rcases List.mem_cons.mp hi with rfl | hi
    · exact Nat.dvd_trans h1 (Nat.gcd_dvd_right _ _)
    · exact h2 i hi
theorem gN_dvd {r : List Int} {i : Int} (h : i ∈ r) : ((gN r : Nat) : Int) ∣ i := Int.ofNat_dvd_left.mpr ((gN_fold_dvd r 0).2 i h)
theorem gN_pos {r : List Int} {i : Int} (h : i ∈ r) (h0 : i ≠ 0) : 0 < gN r := by
  have := (gN_fold_dvd r 0).2 i h
  exact Nat.pos_of_dvd_of_pos this (by omega)
theorem gN_fold_mul (c : Nat) : ∀ (r : List Int) (g : Nat), (r.map fun i => (c : Int) * i).foldl (fun g i => Nat.gcd g i.natAbs) (c * g) = c * r.foldl (fun g i => Nat.gcd g i.natAbs) g
  | [], g => rfl
  | j :: r, g => by
    show (r.map fun i => (c : Int) * i).foldl _ (Nat.gcd (c * g) ((c : Int) * j).natAbs) = _
    rw [Int.natAbs_mul, Int.natAbs_natCast, Nat.gcd_mul_left]
    exact gN_fold_mul c r _
theorem gN_mul (c : Nat) (r : List Int) : gN (r.map fun i => (c : Int) * i) = c * gN r := gN_fold_mul c r 0
theorem gN_fold_neg : ∀ (r : List Int) (g : Nat), (r.map fun i => -i).foldl (fun g i => Nat.gcd g i.natAbs) g = r.foldl (fun g i => Nat.gcd g i.natAbs) g
  | [], g => rfl
  | j :: r, g => by
    show (r.map fun i => -i).foldl _ (Nat.gcd g (-j).natAbs) = _
    rw [Int.natAbs_neg]
    exact gN_fold_neg r _
theorem gN_neg (r : List Int) : gN (r.map fun i => -i) = gN r := gN_fold_neg r 0
/-- the row, its sign made right -/
def srow (l : List Rat) : List Int := (rowI l).map fun i => if sgnI (rowI l) then i else -i
theorem gN_srow (l : List Rat) : gN (srow l) = gN (rowI l) := by
  unfold srow
  cases sgnI (rowI l) with
  | true => simp
  | false => simpa using gN_neg (rowI l)
theorem whole_eq (l : List Rat) : whole l = (srow l).map fun i => i / (gN (rowI l) : Int) := by
  unfold whole srow
  rw [List.map_map]; rfl
theorem whole_mul {l : List Rat} : (whole l).map (fun i => (gN (rowI l) : Int) * i) = srow l := by
  rw [whole_eq, List.map_map]
  conv => rhs; rw [← List.map_id (srow l)]
  apply List.map_congr_left
  intro i hi
  have d : ((gN (rowI l) : Nat) : Int) ∣ i := by rw [← gN_srow]; exact gN_dvd hi
  show (gN (rowI l) : Int) * (i / (gN (rowI l) : Int)) = i
  exact Int.mul_ediv_cancel' d
theorem row_ne {l : List Rat} {x : Rat} (h : x ∈ l) (h0 : x ≠ 0) : x.num * ((lowN l / x.den : Nat) : Int) ≠ 0 := by
  intro e
  have := row_rat h
  rw [e] at this
  have hl : (lowN l : Rat) ≠ 0 := by
    have := low_pos' l
    intro z
    have : lowN l = 0 := by exact_mod_cast z
    omega
  have z : x * (lowN l : Rat) = 0 := this.symm
  rcases Rat.mul_eq_zero.mp z with z | z
  · exact h0 z
  · exact hl z
theorem g_pos {l : List Rat} (h : ∃ x ∈ l, x ≠ 0) : 0 < gN (rowI l) := by
  obtain ⟨x, hx, h0⟩ := h
  exact gN_pos (List.mem_map_of_mem hx) (row_ne hx h0)
/-- P2 -/
theorem whole_gcd {l : List Rat} (h : ∃ x ∈ l, x ≠ 0) : gN (whole l) = 1 := by
  have g := g_pos h
  have e := gN_mul (gN (rowI l)) (whole l)
  rw [whole_mul, gN_srow] at e
  exact Nat.eq_of_mul_eq_mul_left g (by omega)
/-- P1 -/
theorem whole_rat {l : List Rat} (h : ∃ x ∈ l, x ≠ 0) : ∃ k : Rat, k ≠ 0 ∧ (whole l).map (fun i : Int => (i : Rat)) = l.map (fun x => k * x) := by
  have g := g_pos h
  have hl := low_pos' l
  have hg : (gN (rowI l) : Rat) ≠ 0 := by
    intro z
    have : gN (rowI l) = 0 := by exact_mod_cast z
    omega
  have hl' : (lowN l : Rat) ≠ 0 := by
    intro z
    have : lowN l = 0 := by exact_mod_cast z
    omega
  refine ⟨(if sgnI (rowI l) then 1 else -1) * (lowN l : Rat) / (gN (rowI l) : Rat), ?_, ?_⟩
  · split <;> grind
  · rw [whole_eq]
    unfold srow
    conv => lhs; rw [rowI]
    rw [List.map_map, List.map_map, List.map_map]
    apply List.map_congr_left
    intro x hx
    have hr := row_rat hx
    have hm : x.num * ((lowN l / x.den : Nat) : Int) ∈ rowI l := List.mem_map_of_mem hx
    have d := gN_dvd hm
    show ((((if sgnI (rowI l) then x.num * ((lowN l / x.den : Nat) : Int) else -(x.num * ((lowN l / x.den : Nat) : Int))) / (gN (rowI l) : Int) : Int)) : Rat) = _
    generalize x.num * ((lowN l / x.den : Nat) : Int) = i at *
    obtain ⟨j, rfl⟩ := d
    have g0 : ((gN (rowI l) : Nat) : Int) ≠ 0 := by omega
    have hc : (((gN (rowI l) : Nat) : Int) : Rat) = (gN (rowI l) : Rat) := rfl
    rw [Rat.intCast_mul, hc] at hr
    cases sgnI (rowI l) with
    | true =>
      simp only [if_true]
      rw [Int.mul_ediv_cancel_left _ g0]
      grind
    | false =>
      simp only [Bool.false_eq_true, if_false]
      rw [show -(((gN (rowI l) : Nat) : Int) * j) = ((gN (rowI l) : Nat) : Int) * (-j) by grind, Int.mul_ediv_cancel_left _ g0, Rat.intCast_neg]
      grind
theorem filt_int (r : List Int) : (r.filterMap fun i => if i = 0 then none else some (W.int i)) = (r.filter (· ≠ 0)).map W.int := by
  induction r with
  | nil => rfl
  | cons i r ih =>
    by_cases h : i = 0
    · simp [h, ih]
    · simp [h, ih]
theorem row_first {l : List Rat} (h : ∃ x ∈ l, x ≠ 0) : ∃ i r, (rowI l).filter (· ≠ 0) = i :: r := by
  obtain ⟨x, hx, h0⟩ := h
  cases e : (rowI l).filter (· ≠ 0) with
  | cons i r => exact ⟨i, r, rfl⟩
  | nil =>
    have : x.num * ((lowN l / x.den : Nat) : Int) ∈ (rowI l).filter (· ≠ 0) := List.mem_filter.mpr ⟨List.mem_map_of_mem hx, by simpa using row_ne hx h0⟩
    rw [e] at this
    cases this
theorem gN_lt {n : Nat} {l : List Rat} (hs : ∀ x ∈ l, Sz x n) (h : ∃ x ∈ l, x ≠ 0) : gN (rowI l) < 2 ^ (1 + n * (l.length + 1)) := by
  obtain ⟨x, hx, h0⟩ := h
  have hl := low_lt hs
  have e : (lowN l / x.den) < 2 ^ (1 + n * l.length) := Nat.lt_of_le_of_lt (Nat.div_le_self _ _) hl
  have m := lt_mul2 (hs x hx).num e
  rw [show n + (1 + n * l.length) = 1 + n * (l.length + 1) by rw [Nat.mul_succ]; omega] at m
  have hm : x.num * ((lowN l / x.den : Nat) : Int) ∈ rowI l := List.mem_map_of_mem hx
  have d := (gN_fold_dvd (rowI l) 0).2 _ hm
  have p := row_ne hx h0
  have := Nat.le_of_dvd (by omega) d
  rw [Int.natAbs_mul, Int.natAbs_natCast] at this
  exact Nat.lt_of_le_of_lt this m
theorem whole_len (l : List Rat) : (whole l).length = l.length := by unfold whole rowI; simp
/-- the sign of a row's first -/
theorem sgn_neg {r : List Int} (h : sgnI r = false) : sgnI (r.map fun i => -i) = true := by
  induction r with
  | nil => rfl
  | cons i r ih =>
    by_cases hi : i = 0
    · subst hi
      simpa [sgnI] using ih (by simpa [sgnI] using h)
    · simp [sgnI, hi] at h ⊢
      omega
theorem sgn_mul {r : List Int} {c : Int} (hc : 0 < c) : sgnI (r.map fun i => c * i) = sgnI r := by
  induction r with
  | nil => rfl
  | cons i r ih =>
    by_cases hi : i = 0
    · subst hi
      simpa [sgnI] using ih
    · have : c * i ≠ 0 := Int.mul_ne_zero (by omega) hi
      simp [sgnI, hi, this]
      constructor
      · intro h
        apply Int.not_le.mp
        intro h'
        have := Int.mul_le_mul_of_nonneg_left h' (Int.le_of_lt hc)
        rw [Int.mul_zero] at this
        omega
      · exact fun h => Int.mul_pos hc h
/-- P3 -/
theorem whole_sgn {l : List Rat} (h : ∃ x ∈ l, x ≠ 0) : sgnI (whole l) = true := by
  have g := g_pos h
  rw [← sgn_mul (c := (gN (rowI l) : Int)) (by omega), whole_mul]
  unfold srow
  cases e : sgnI (rowI l) with
  | true => simpa using e
  | false => simpa using sgn_neg e
/-- P4 -/
theorem whole_sz {n : Nat} {l : List Rat} (h : ∀ x ∈ l, Sz x n) : ∀ i ∈ whole l, SzI i (1 + n * (l.length + 1)) := by
  intro i hi
  unfold whole at hi
  obtain ⟨j, hj, rfl⟩ := List.mem_map.mp hi
  obtain ⟨x, hx, rfl⟩ := List.mem_map.mp hj
  have hl := low_lt h
  have hs := h x hx
  have e : (lowN l / x.den) < 2 ^ (1 + n * l.length) := Nat.lt_of_le_of_lt (Nat.div_le_self _ _) hl
  have m := lt_mul2 hs.num e
  rw [show n + (1 + n * l.length) = 1 + n * (l.length + 1) by rw [Nat.mul_succ]; omega] at m
  have d := gN_dvd hj
  refine ⟨?_⟩
  have d' : ((gN (rowI l) : Nat) : Int) ∣ (if sgnI (rowI l) then x.num * ((lowN l / x.den : Nat) : Int) else -(x.num * ((lowN l / x.den : Nat) : Int))) := by
    split
    · exact d
    · exact Int.dvd_neg.mpr d
  rw [Int.natAbs_ediv_of_dvd d']
  refine Nat.lt_of_le_of_lt (Nat.div_le_self _ _) ?_
  split
  · rw [Int.natAbs_mul, Int.natAbs_natCast]; exact m
  · rw [Int.natAbs_neg, Int.natAbs_mul, Int.natAbs_natCast]; exact m
theorem whole3 {a b c : Rat} {n : Nat} (ha : Sz a n) (hb : Sz b n) (hc : Sz c n) (h0 : ¬ (a = 0 ∧ b = 0 ∧ c = 0)) : ∃ (x y z : Int) (k : Rat), whole [a, b, c] = [x, y, z] ∧ k ≠ 0 ∧ (x : Rat) = k * a ∧ (y : Rat) = k * b ∧ (z : Rat) = k * c ∧
    Nat.gcd (Nat.gcd x.natAbs y.natAbs) z.natAbs = 1 ∧ (0 < x ∨ x = 0 ∧ (0 < y ∨ y = 0 ∧ 0 < z)) ∧ SzI x (1 + n * 4) ∧ SzI y (1 + n * 4) ∧ SzI z (1 + n * 4) := by
  have he : ∃ x ∈ [a, b, c], x ≠ 0 := by
    by_cases h1 : a = 0
    · by_cases h2 : b = 0
      · exact ⟨c, by simp, fun h3 => h0 ⟨h1, h2, h3⟩⟩
      · exact ⟨b, by simp, h2⟩
    · exact ⟨a, by simp, h1⟩
  have hl := whole_len [a, b, c]
  obtain ⟨k, hk, hm⟩ := whole_rat he
  have hg := whole_gcd he
  have hs := whole_sgn he
  have hz := whole_sz (n := n) (l := [a, b, c]) (by
    intro x hx
    simp only [List.mem_cons, List.not_mem_nil, or_false] at hx
    rcases hx with rfl | rfl | rfl <;> assumption)
  match hw : whole [a, b, c], hl with
  | [x, y, z], _ =>
    rw [hw] at hm hg hs hz
    simp at hm
    simp [gN] at hg
    refine ⟨x, y, z, k, rfl, hk, hm.1, hm.2.1, hm.2.2, hg, ?_, hz x (by simp), hz y (by simp), hz z (by simp)⟩
    unfold sgnI at hs
    by_cases hx : x = 0
    · subst hx
      by_cases hy : y = 0
      · subst hy
        by_cases hzz : z = 0
        · subst hzz; simp at hg
        · simp [hzz] at hs; omega
      · simp [hy] at hs; omega
    · simp [hx] at hs; omega
theorem low_ints : ∀ (zs : List Int), lowN (zs.map fun z : Int => (z : Rat)) = 1 := by
  intro zs
  unfold lowN
  have : ∀ (zs : List Int), (zs.map fun z : Int => (z : Rat)).foldl (fun n x => Nat.lcm n x.den) 1 = 1 := by
    intro zs
    induction zs with
    | nil => rfl
    | cons z r ih => simpa using ih
  exact this zs
theorem whole_int_sz {n : Nat} {zs : List Int} (h : ∀ z ∈ zs, SzI z n) : ∀ i ∈ whole (zs.map fun z : Int => (z : Rat)), SzI i n := by
  intro i hi
  unfold whole at hi
  obtain ⟨j, hj, rfl⟩ := List.mem_map.mp hi
  have d := gN_dvd hj
  have hj' := hj
  unfold rowI at hj
  obtain ⟨x, hx, rfl⟩ := List.mem_map.mp hj
  obtain ⟨z, hz, rfl⟩ := List.mem_map.mp hx
  rw [low_ints] at *
  have e : (z : Rat).num * ((1 / (z : Rat).den : Nat) : Int) = z := by simp
  rw [e] at d ⊢
  have s := h z hz
  have d' : ((gN (rowI (zs.map fun z : Int => (z : Rat))) : Nat) : Int) ∣ (if sgnI (rowI (zs.map fun z : Int => (z : Rat))) then z else -z) := by
    split
    · exact d
    · exact Int.dvd_neg.mpr d
  refine ⟨?_⟩
  rw [Int.natAbs_ediv_of_dvd d']
  refine Nat.lt_of_le_of_lt (Nat.div_le_self _ _) ?_
  split
  · exact s.lt
  · rw [Int.natAbs_neg]; exact s.lt
theorem whole3I {a b c : Int} {n : Nat} (ha : SzI a n) (hb : SzI b n) (hc : SzI c n) (h0 : ¬ (a = 0 ∧ b = 0 ∧ c = 0)) : ∃ (x y z : Int) (k : Rat), whole [(a : Rat), (b : Rat), (c : Rat)] = [x, y, z] ∧ k ≠ 0 ∧ (x : Rat) = k * a ∧ (y : Rat) = k * b ∧ (z : Rat) = k * c ∧
    Nat.gcd (Nat.gcd x.natAbs y.natAbs) z.natAbs = 1 ∧ (0 < x ∨ x = 0 ∧ (0 < y ∨ y = 0 ∧ 0 < z)) ∧ SzI x n ∧ SzI y n ∧ SzI z n := by
  have hz := whole_int_sz (n := n) (zs := [a, b, c]) (by
    intro x hx
    simp only [List.mem_cons, List.not_mem_nil, or_false] at hx
    rcases hx with rfl | rfl | rfl <;> assumption)
  obtain ⟨x, y, z, k, hw, hk, e1, e2, e3, hg, hs, _⟩ := whole3 (a := (a : Rat)) (b := (b : Rat)) (c := (c : Rat)) (n := n + 1) inferInstance inferInstance inferInstance (fun z => h0 ⟨by exact_mod_cast z.1, by exact_mod_cast z.2.1, by exact_mod_cast z.2.2⟩)
  simp only [List.map_cons, List.map_nil] at hz
  rw [hw] at hz
  exact ⟨x, y, z, k, hw, hk, e1, e2, e3, hg, hs, hz x (by simp), hz y (by simp), hz z (by simp)⟩
/-- two rows in lowest terms, of one sign, that are multiples: the same -/
theorem prim_uniq3 {x y z x' y' z' : Int} {k : Rat} (hk : k ≠ 0) (e1 : (x : Rat) = k * x') (e2 : (y : Rat) = k * y') (e3 : (z : Rat) = k * z') (h : Nat.gcd (Nat.gcd x.natAbs y.natAbs) z.natAbs = 1) (h' : Nat.gcd (Nat.gcd x'.natAbs y'.natAbs) z'.natAbs = 1)
    (s : 0 < x ∨ x = 0 ∧ (0 < y ∨ y = 0 ∧ 0 < z)) (s' : 0 < x' ∨ x' = 0 ∧ (0 < y' ∨ y' = 0 ∧ 0 < z')) : x = x' ∧ y = y' ∧ z = z' := by
  have hd := den_ne k
  have hdq := den_ne' k
  have hn := rat_num k
  have m1 : ∀ i j : Int, (i : Rat) = k * j → (k.den : Int) * i = k.num * j := by
    intro i j e
    have : (((k.den : Int) * i : Int) : Rat) = ((k.num * j : Int) : Rat) := by
      rw [Rat.intCast_mul, Rat.intCast_mul, e]
      generalize ((k.den : Int) : Rat) = d at *
      generalize (k.num : Rat) = n at *
      grind
    exact_mod_cast this
  have a1 := m1 x x' e1
  have a2 := m1 y y' e2
  have a3 := m1 z z' e3
  have g1 : gN ([x, y, z].map fun i => ((k.den : Nat) : Int) * i) = k.den * 1 := by
    rw [gN_mul]
    simp [gN, h]
  have g2 : gN ([x', y', z'].map fun i => ((k.num.natAbs : Nat) : Int) * i) = k.num.natAbs * 1 := by
    rw [gN_mul]
    simp [gN, h']
  have g3 : gN ([x, y, z].map fun i => ((k.den : Nat) : Int) * i) = gN ([x', y', z'].map fun i => ((k.num.natAbs : Nat) : Int) * i) := by
    simp only [List.map_cons, List.map_nil, a1, a2, a3, gN, List.foldl_cons, List.foldl_nil, Int.natAbs_mul, Int.natAbs_natCast]
  have g4 : k.den = k.num.natAbs := by omega
  have hp := k.den_pos
  rcases Int.natAbs_eq k.num with q | q
  · rw [q, ← g4] at a1 a2 a3
    exact ⟨Int.eq_of_mul_eq_mul_left hd a1, Int.eq_of_mul_eq_mul_left hd a2, Int.eq_of_mul_eq_mul_left hd a3⟩
  · rw [q, ← g4] at a1 a2 a3
    have b1 : x = -x' := Int.eq_of_mul_eq_mul_left hd (by rw [a1]; grind)
    have b2 : y = -y' := Int.eq_of_mul_eq_mul_left hd (by rw [a2]; grind)
    have b3 : z = -z' := Int.eq_of_mul_eq_mul_left hd (by rw [a3]; grind)
    omega
/-- two rows in lowest terms, of one sign, that are multiples: the same -/
theorem prim_uniq {x y z x' y' z' : Int} {k : Rat} (hk : k ≠ 0) (e1 : (x : Rat) = k * x') (e2 : (y : Rat) = k * y') (e3 : (z : Rat) = k * z') (h : Nat.gcd (Nat.gcd x.natAbs y.natAbs) z.natAbs = 1) (h' : Nat.gcd (Nat.gcd x'.natAbs y'.natAbs) z'.natAbs = 1)
    (s : 0 < x ∨ x = 0 ∧ 0 < y) (s' : 0 < x' ∨ x' = 0 ∧ 0 < y') : x = x' ∧ y = y' ∧ z = z' := prim_uniq3 hk e1 e2 e3 h h' (by omega) (by omega)
theorem low3 (a b c : Rat) : lowN [a, b, c] ∣ a.den * (b.den * c.den) := by
  show Nat.lcm (Nat.lcm (Nat.lcm 1 a.den) b.den) c.den ∣ _
  refine Nat.lcm_dvd (Nat.lcm_dvd (Nat.lcm_dvd (Nat.one_dvd _) (Nat.dvd_mul_right _ _)) ?_) ?_
  · exact Nat.dvd_trans (Nat.dvd_mul_right b.den c.den) (Nat.dvd_mul_left _ _)
  · exact Nat.dvd_trans (Nat.dvd_mul_left c.den b.den) (Nat.dvd_mul_left _ _)
theorem low3_le {a b c x : Rat} {p : Nat} (hx : x ∈ [a, b, c]) (e : a.den * (b.den * c.den) = x.den * p) : lowN [a, b, c] / x.den ≤ p := by
  have d := low3 a b c
  rw [e] at d
  have hp := x.den_pos
  have h0 : 0 < x.den * p := by
    rw [← e]
    exact Nat.mul_pos a.den_pos (Nat.mul_pos b.den_pos c.den_pos)
  have := Nat.le_of_dvd h0 d
  exact Nat.div_le_of_le_mul this
theorem whole_item_lt {l : List Rat} {i : Int} (hi : i ∈ whole l) {B : Nat} (h : ∀ x ∈ l, x.num.natAbs * (lowN l / x.den) < B) : i.natAbs < B := by
  unfold whole at hi
  obtain ⟨j, hj, rfl⟩ := List.mem_map.mp hi
  have d := gN_dvd hj
  have hj' := hj
  unfold rowI at hj
  obtain ⟨x, hx, rfl⟩ := List.mem_map.mp hj
  have d' : ((gN (rowI l) : Nat) : Int) ∣ (if sgnI (rowI l) then x.num * ((lowN l / x.den : Nat) : Int) else -(x.num * ((lowN l / x.den : Nat) : Int))) := by
    split
    · exact d
    · exact Int.dvd_neg.mpr d
  rw [Int.natAbs_ediv_of_dvd d']
  refine Nat.lt_of_le_of_lt (Nat.div_le_self _ _) ?_
  split
  · rw [Int.natAbs_mul, Int.natAbs_natCast]; exact h x hx
  · rw [Int.natAbs_neg, Int.natAbs_mul, Int.natAbs_natCast]; exact h x hx
/-- three told integers, their sizes summed -/
theorem whole3S {a b c : Rat} {n1 n2 n3 : Nat} (ha : Sz a n1) (hb : Sz b n2) (hc : Sz c n3) (h0 : ¬ (a = 0 ∧ b = 0 ∧ c = 0)) : ∃ (x y z : Int) (k : Rat), whole [a, b, c] = [x, y, z] ∧ k ≠ 0 ∧ (x : Rat) = k * a ∧ (y : Rat) = k * b ∧ (z : Rat) = k * c ∧
    Nat.gcd (Nat.gcd x.natAbs y.natAbs) z.natAbs = 1 ∧ (0 < x ∨ x = 0 ∧ (0 < y ∨ y = 0 ∧ 0 < z)) ∧ SzI x (n1 + n2 + n3) ∧ SzI y (n1 + n2 + n3) ∧ SzI z (n1 + n2 + n3) := by
  obtain ⟨x, y, z, k, hw, hk, e1, e2, e3, hg, hs, _⟩ := whole3 (n := n1 + n2 + n3) (ha.mono (by omega)) (hb.mono (by omega)) (hc.mono (by omega)) h0
  have hz : ∀ i ∈ whole [a, b, c], SzI i (n1 + n2 + n3) := by
    intro i hi
    refine ⟨whole_item_lt hi fun q hq => ?_⟩
    have hq' := hq
    simp only [List.mem_cons, List.not_mem_nil, or_false] at hq
    rcases hq with rfl | rfl | rfl
    · have l := low3_le (a := q) (b := b) (c := c) (x := q) (p := b.den * c.den) hq' rfl
      have m := lt_mul2 ha.num (Nat.lt_of_le_of_lt l (lt_mul2 hb.den hc.den))
      rw [Nat.add_assoc]; exact m
    · have l := low3_le (a := a) (b := q) (c := c) (x := q) (p := a.den * c.den) hq' (by rw [Nat.mul_left_comm])
      have m := lt_mul2 hb.num (Nat.lt_of_le_of_lt l (lt_mul2 ha.den hc.den))
      rw [show n1 + n2 + n3 = n2 + (n1 + n3) by omega]; exact m
    · have l := low3_le (a := a) (b := b) (c := q) (x := q) (p := a.den * b.den) hq' (by rw [← Nat.mul_assoc, Nat.mul_comm])
      have m := lt_mul2 hc.num (Nat.lt_of_le_of_lt l (lt_mul2 ha.den hb.den))
      rw [show n1 + n2 + n3 = n3 + (n1 + n2) by omega]; exact m
  rw [hw] at hz
  exact ⟨x, y, z, k, hw, hk, e1, e2, e3, hg, hs, hz x (by simp), hz y (by simp), hz z (by simp)⟩
end MP

/-! TD: rows of ints in lowest terms. -/
namespace MP
open PySem PySem.Spec PyProof.Rows L2
def toldI (R : List Int) : List Int := R.map fun i => (if sgnI R then i else -i) / (gN R : Int)
theorem row_firstI {R : List Int} (h : ∃ i ∈ R, i ≠ 0) : ∃ i r, R.filter (· ≠ 0) = i :: r := by
  obtain ⟨i, hi, h0⟩ := h
  cases e : R.filter (· ≠ 0) with
  | nil =>
    have : i ∈ R.filter (· ≠ 0) := List.mem_filter.mpr ⟨hi, by simpa using h0⟩
    rw [e] at this; cases this
  | cons i r => exact ⟨i, r, rfl⟩
theorem gN_ltI {R : List Int} {n : Nat} (hs : ∀ i ∈ R, SzI i n) (h : ∃ i ∈ R, i ≠ 0) : gN R < 2 ^ n ∧ 0 < gN R := by
  obtain ⟨i, hi, h0⟩ := h
  have hd := (gN_fold_dvd R 0).2 i hi
  have hp := gN_pos hi h0
  exact ⟨Nat.lt_of_le_of_lt (Nat.le_of_dvd (by omega) hd) (hs i hi).lt, hp⟩
theorem toldI_whole (zs : List Int) : toldI zs = whole (zs.map fun z : Int => (z : Rat)) := by
  have hr : rowI (zs.map fun z : Int => (z : Rat)) = zs := by
    unfold rowI
    rw [low_ints, List.map_map]
    conv => rhs; rw [← List.map_id zs]
    apply List.map_congr_left
    intro z _
    simp
  unfold toldI whole
  rw [hr]
theorem told6 {a b c d e f : Int} {n : Nat} (ha : SzI a n) (hb : SzI b n) (hc : SzI c n) (hd : SzI d n) (he : SzI e n) (hf : SzI f n) (h0 : ∃ i ∈ [a, b, c, d, e, f], i ≠ 0) :
    ∃ (x1 x2 x3 x4 x5 x6 : Int) (k : Rat), toldI [a, b, c, d, e, f] = [x1, x2, x3, x4, x5, x6] ∧ k ≠ 0 ∧ (x1 : Rat) = k * a ∧ (x2 : Rat) = k * b ∧ (x3 : Rat) = k * c ∧ (x4 : Rat) = k * d ∧ (x5 : Rat) = k * e ∧ (x6 : Rat) = k * f ∧ SzI x1 n ∧ SzI x2 n ∧ SzI x3 n ∧ SzI x4 n ∧ SzI x5 n ∧ SzI x6 n := by
  have hw := toldI_whole [a, b, c, d, e, f]
  have h0' : ∃ x ∈ [a, b, c, d, e, f].map (fun z : Int => (z : Rat)), x ≠ 0 := by
    obtain ⟨i, hi, h⟩ := h0
    exact ⟨(i : Rat), List.mem_map.mpr ⟨i, hi, rfl⟩, fun z => h (by exact_mod_cast z)⟩
  obtain ⟨k, hk, hr⟩ := whole_rat h0'
  have hz := whole_int_sz (zs := [a, b, c, d, e, f]) (n := n) (by
    intro z hz
    simp only [List.mem_cons, List.not_mem_nil, or_false] at hz
    rcases hz with rfl | rfl | rfl | rfl | rfl | rfl <;> assumption)
  rw [← hw] at hr hz
  have hlen : (toldI [a, b, c, d, e, f]).length = 6 := by unfold toldI; simp
  generalize toldI [a, b, c, d, e, f] = L at *
  match L, hlen with
  | [x1, x2, x3, x4, x5, x6], _ =>
    simp only [List.map_cons, List.map_nil, List.cons.injEq, and_true] at hr
    obtain ⟨r1, r2, r3, r4, r5, r6⟩ := hr
    exact ⟨x1, x2, x3, x4, x5, x6, k, rfl, hk, r1, r2, r3, r4, r5, r6, hz x1 (by simp), hz x2 (by simp), hz x3 (by simp), hz x4 (by simp), hz x5 (by simp), hz x6 (by simp)⟩
theorem whole6S {a b c d e f : Rat} {n : Nat} (ha : Sz a n) (hb : Sz b n) (hc : Sz c n) (hd : Sz d n) (he : Sz e n) (hf : Sz f n) (h0 : ∃ x ∈ [a, b, c, d, e, f], x ≠ 0) :
    ∃ (x1 x2 x3 x4 x5 x6 : Int) (k : Rat), whole [a, b, c, d, e, f] = [x1, x2, x3, x4, x5, x6] ∧ k ≠ 0 ∧ (x1 : Rat) = k * a ∧ (x2 : Rat) = k * b ∧ (x3 : Rat) = k * c ∧ (x4 : Rat) = k * d ∧ (x5 : Rat) = k * e ∧ (x6 : Rat) = k * f ∧ SzI x1 (1 + n * 7) ∧ SzI x2 (1 + n * 7) ∧ SzI x3 (1 + n * 7) ∧ SzI x4 (1 + n * 7) ∧ SzI x5 (1 + n * 7) ∧ SzI x6 (1 + n * 7) := by
  obtain ⟨k, hk, hr⟩ := whole_rat h0
  have hz := whole_sz (l := [a, b, c, d, e, f]) (n := n) (by
    intro z hz
    simp only [List.mem_cons, List.not_mem_nil, or_false] at hz
    rcases hz with rfl | rfl | rfl | rfl | rfl | rfl <;> assumption)
  have hlen := whole_len [a, b, c, d, e, f]
  generalize whole [a, b, c, d, e, f] = L at *
  match L, hlen with
  | [x1, x2, x3, x4, x5, x6], _ =>
    simp only [List.map_cons, List.map_nil, List.cons.injEq, and_true] at hr
    obtain ⟨r1, r2, r3, r4, r5, r6⟩ := hr
    exact ⟨x1, x2, x3, x4, x5, x6, k, rfl, hk, r1, r2, r3, r4, r5, r6, hz x1 (by simp), hz x2 (by simp), hz x3 (by simp), hz x4 (by simp), hz x5 (by simp), hz x6 (by simp)⟩
theorem told3 {a b c : Int} {n : Nat} (ha : SzI a n) (hb : SzI b n) (hc : SzI c n) (h0 : ¬ (a = 0 ∧ b = 0 ∧ c = 0)) : ∃ (x y z : Int) (k : Rat), toldI [a, b, c] = [x, y, z] ∧ k ≠ 0 ∧ (x : Rat) = k * a ∧ (y : Rat) = k * b ∧ (z : Rat) = k * c ∧
    Nat.gcd (Nat.gcd x.natAbs y.natAbs) z.natAbs = 1 ∧ (0 < x ∨ x = 0 ∧ (0 < y ∨ y = 0 ∧ 0 < z)) ∧ SzI x n ∧ SzI y n ∧ SzI z n := by
  rw [toldI_whole]
  exact whole3I ha hb hc h0
end MP

/-! TR: the drawn fractions, places, triangles; a triangle with an area comes. -/
namespace MP
open PySem PySem.Spec PyProof.Rows L2
/-- a drawn fraction -/
def lf (s : DS) : Rat × DS :=
  let d1 := drw s 25
  let d2 := drw d1.2 3
  let d3 := drw d2.2 (if d2.1 = 2 then 4 else 1)
  (((d1.1 - 12 : Int) : Rat) / ((1 + d3.1 : Int) : Rat), d3.2)
/-- six of them -/
def l6 (s : DS) : (Rat × Rat × Rat × Rat × Rat × Rat) × DS :=
  let a := lf s
  let b := lf a.2
  let c := lf b.2
  let d := lf c.2
  let e := lf d.2
  let g := lf e.2
  ((a.1, b.1, c.1, d.1, e.1, g.1), g.2)
def ar6 (t : Rat × Rat × Rat × Rat × Rat × Rat) : Rat := (t.2.2.1 - t.1) * (t.2.2.2.2.2 - t.2.1) - (t.2.2.2.2.1 - t.1) * (t.2.2.2.1 - t.2.1)
/-- the same of a bare seed -/
def lfS (k : Int) : Rat × Int :=
  (((lcg k / 64 % 25 - 12 : Int) : Rat) / ((1 + lcg (lcg (lcg k)) / 64 % (if lcg (lcg k) / 64 % 3 = 2 then 4 else 1) : Int) : Rat), lcg (lcg (lcg k)))
def l6S (k : Int) : (Rat × Rat × Rat × Rat × Rat × Rat) × Int :=
  let a := lfS k
  let b := lfS a.2
  let c := lfS b.2
  let d := lfS c.2
  let e := lfS d.2
  let g := lfS e.2
  ((a.1, b.1, c.1, d.1, e.1, g.1), g.2)
abbrev emp (s : DS) : Prop := stripz s.cells = []
theorem drw_emp {s : DS} {m : Int} (h : emp s) : (drw s m).1 = lcg s.seed / 64 % m ∧ emp (drw s m).2 ∧ (drw s m).2.seed = lcg s.seed := by
  obtain ⟨h1, h2, h3⟩ := drw_nil (m := m) h
  refine ⟨h1, ?_, h3⟩
  show stripz _ = []
  rw [h2]; rfl
theorem lf_emp {s : DS} (h : emp s) : (lf s).1 = (lfS s.seed).1 ∧ emp (lf s).2 ∧ (lf s).2.seed = (lfS s.seed).2 := by
  obtain ⟨a1, a2, a3⟩ := drw_emp (m := 25) h
  obtain ⟨b1, b2, b3⟩ := drw_emp (m := 3) a2
  obtain ⟨c1, c2, c3⟩ := drw_emp (m := if (drw (drw s 25).2 3).1 = 2 then 4 else 1) b2
  unfold lf lfS
  dsimp only
  refine ⟨?_, c2, ?_⟩
  · rw [c1, a1, b3, a3, b1, a3]
  · rw [c3, b3, a3]
theorem l6_emp {s : DS} (h : emp s) : (l6 s).1 = (l6S s.seed).1 ∧ emp (l6 s).2 ∧ (l6 s).2.seed = (l6S s.seed).2 := by
  obtain ⟨a1, a2, a3⟩ := lf_emp h
  obtain ⟨b1, b2, b3⟩ := lf_emp a2
  obtain ⟨c1, c2, c3⟩ := lf_emp b2
  obtain ⟨d1, d2, d3⟩ := lf_emp c2
  obtain ⟨e1, e2, e3⟩ := lf_emp d2
  obtain ⟨g1, g2, g3⟩ := lf_emp e2
  rw [e3, d3, c3, b3, a3] at g1 g3
  rw [d3, c3, b3, a3] at e1
  rw [c3, b3, a3] at d1
  rw [b3, a3] at c1
  rw [a3] at b1
  unfold l6 l6S
  dsimp only
  exact ⟨by rw [a1, b1, c1, d1, e1, g1], g2, g3⟩
theorem l6S_seed {k : Int} : (l6S k).2 = itn lcg 18 k := rfl
/-- how much is drawn yet to come -/
def mu : List Int → Int
  | [] => 0
  | v :: r => v + 1 + mu r
theorem mu_nn : ∀ {l : List Int}, (∀ c ∈ l, 0 ≤ c) → 0 ≤ mu l
  | [], _ => Int.le_refl _
  | v :: r, h => by
    have := h v (List.mem_cons_self ..)
    have := mu_nn (l := r) fun c hc => h c (List.mem_cons_of_mem _ hc)
    rw [mu]; omega
theorem mu_strip : ∀ {l : List Int}, (∀ c ∈ l, 0 ≤ c) → mu (stripz l) ≤ mu l
  | [], _ => Int.le_refl _
  | v :: r, h => by
    have := h v (List.mem_cons_self ..)
    have := mu_strip (l := r) fun c hc => h c (List.mem_cons_of_mem _ hc)
    rw [stripz]
    split
    · rw [mu]; omega
    · exact Int.le_refl _
theorem strip_ne : ∀ {l : List Int} {v : Int} {r : List Int}, stripz l = v :: r → v ≠ 0
  | [], v, r, h => by cases h
  | w :: l, v, r, h => by
    rw [stripz] at h
    split at h
    · exact strip_ne h
    · cases h; assumption
theorem drw_mu {s : DS} {m : Int} (hm : 0 < m) : mu (drw s m).2.cells ≤ mu s.cells := by
  have hs := mu_strip s.nn
  cases e : stripz s.cells with
  | nil =>
    rw [(drw_nil (m := m) e).2.1]
    exact mu_nn s.nn
  | cons v r =>
    rw [(drw_cons e hm).2.1]
    rw [e] at hs
    have hv := s.nn v (stripz_mem (by rw [e]; exact List.mem_cons_self ..))
    have : v / m ≤ v := Int.ediv_le_self _ hv
    rw [mu] at hs ⊢
    omega
theorem drw_mu_lt {s : DS} {m : Int} (hm : 2 ≤ m) (hn : ¬ emp s) : mu (drw s m).2.cells < mu s.cells := by
  have hs := mu_strip s.nn
  cases e : stripz s.cells with
  | nil => exact absurd e hn
  | cons v r =>
    rw [(drw_cons e (by omega)).2.1]
    rw [e] at hs
    have hv := s.nn v (stripz_mem (by rw [e]; exact List.mem_cons_self ..))
    have hv0 := strip_ne e
    have : v / m < v := Int.ediv_lt_self_of_pos_of_ne_one (by omega) (by omega)
    rw [mu] at hs ⊢
    omega
theorem lf_mu {s : DS} : mu (lf s).2.cells ≤ mu s.cells := by
  have h1 := drw_mu (s := s) (m := 25) (by decide)
  have h2 := drw_mu (s := (drw s 25).2) (m := 3) (by decide)
  have h3 := drw_mu (s := (drw (drw s 25).2 3).2) (m := if (drw (drw s 25).2 3).1 = 2 then 4 else 1) (by split <;> decide)
  exact Int.le_trans h3 (Int.le_trans h2 h1)
theorem lf_mu_lt {s : DS} (hn : ¬ emp s) : mu (lf s).2.cells < mu s.cells := by
  have h1 := drw_mu_lt (s := s) (m := 25) (by decide) hn
  have h2 := drw_mu (s := (drw s 25).2) (m := 3) (by decide)
  have h3 := drw_mu (s := (drw (drw s 25).2 3).2) (m := if (drw (drw s 25).2 3).1 = 2 then 4 else 1) (by split <;> decide)
  exact Int.lt_of_le_of_lt (Int.le_trans h3 h2) h1
theorem l6_mu_lt {s : DS} (hn : ¬ emp s) : mu (l6 s).2.cells < mu s.cells :=
  Int.lt_of_le_of_lt (Int.le_trans lf_mu (Int.le_trans lf_mu (Int.le_trans lf_mu (Int.le_trans lf_mu lf_mu)))) (lf_mu_lt hn)
def goodS (k : Int) : Bool := ar6 (l6S k).1 != 0
theorem good_tab : ∀ j, j < 18 → ∃ m, goodS (itn lcg (j + 18 * m) (934936168 + 1)) = true := by
  have h : ∀ j, j < 18 → goodS (itn lcg (j + 18 * 0) (934936168 + 1)) = true ∨ goodS (itn lcg (j + 18 * 1) (934936168 + 1)) = true := by decide +kernel
  intro j hj
  rcases h j hj with h | h
  · exact ⟨_, h⟩
  · exact ⟨_, h⟩
theorem emp_itn : ∀ {n : Nat} {s : DS}, emp s → emp (itn (fun s => (l6 s).2) n s) ∧ (itn (fun s => (l6 s).2) n s).seed = itn lcg (18 * n) s.seed
  | 0, s, h => ⟨h, rfl⟩
  | n + 1, s, h => by
    obtain ⟨h1, h2, h3⟩ := l6_emp h
    obtain ⟨g1, g2⟩ := emp_itn (n := n) h2
    refine ⟨g1, ?_⟩
    rw [itn, g2, h3, l6S_seed, show 18 * (n + 1) = 18 + 18 * n from by omega, itn_add]
/-- a triangle comes -/
theorem tri_comes (s : DS) : ∃ n, ar6 (l6 (itn (fun s => (l6 s).2) n s)).1 ≠ 0 := by
  have key : ∀ (k : Nat) (s : DS), (mu s.cells).toNat ≤ k → ∃ n, ar6 (l6 (itn (fun s => (l6 s).2) n s)).1 ≠ 0 := by
    intro k
    induction k with
    | zero =>
      intro s hk
      by_cases he : emp s
      · obtain ⟨j, hj, hr⟩ := reach (T := 18) (by decide) (by decide) s.sd.1 s.sd.2
        obtain ⟨m, hm⟩ := good_tab j hj
        obtain ⟨n, hn⟩ := hr m
        obtain ⟨g1, g2⟩ := emp_itn (n := n) he
        refine ⟨n, ?_⟩
        rw [(l6_emp g1).1, g2, hn]
        unfold goodS at hm
        simpa using hm
      · have := l6_mu_lt he
        have := mu_nn (l6 s).2.nn
        omega
    | succ k ih =>
      intro s hk
      by_cases he : emp s
      · obtain ⟨j, hj, hr⟩ := reach (T := 18) (by decide) (by decide) s.sd.1 s.sd.2
        obtain ⟨m, hm⟩ := good_tab j hj
        obtain ⟨n, hn⟩ := hr m
        obtain ⟨g1, g2⟩ := emp_itn (n := n) he
        refine ⟨n, ?_⟩
        rw [(l6_emp g1).1, g2, hn]
        unfold goodS at hm
        simpa using hm
      · have h1 := l6_mu_lt he
        have h2 := mu_nn (l6 s).2.nn
        obtain ⟨n, hn⟩ := ih (l6 s).2 (by omega)
        exact ⟨n + 1, hn⟩
  exact key _ s (Nat.le_refl _)
end MP

/-! SQ: square roots of fractions; sorted pairs. -/
namespace MP
open PySem PySem.Spec PyProof.Rows L2
theorem rat_sq (r : Rat) : (r * r).num = r.num * r.num ∧ (r * r).den = r.den * r.den := by
  have hc : Nat.gcd (r.num * r.num).natAbs (r.den * r.den) = 1 := by
    rw [Int.natAbs_mul]
    exact (Nat.Coprime.mul_left (Nat.Coprime.mul_right r.reduced r.reduced) (Nat.Coprime.mul_right r.reduced r.reduced))
  rw [Rat.mul_def, Rat.normalize_eq]
  simp only [hc]
  constructor
  · simp
  · simp
/-- the root of a fraction, told as code tells it -/
noncomputable def rootW (x : Rat) : W := open Classical in if h : ∃ r : Rat, 0 ≤ r ∧ r * r = x then fr h.choose else .non
theorem sq_inj {a b : Rat} (ha : 0 ≤ a) (hb : 0 ≤ b) (h : a * a = b * b) : a = b := by
  have h1 : (a - b) * (a + b) = 0 := by grind
  rcases Rat.mul_eq_zero.mp h1 with z | z
  · grind
  · have : a = 0 ∧ b = 0 := by constructor <;> grind
    grind
theorem rootW_of {x r : Rat} (h : 0 ≤ r) (e : r * r = x) : rootW x = fr r := by
  have hx : ∃ r : Rat, 0 ≤ r ∧ r * r = x := ⟨r, h, e⟩
  unfold rootW
  rw [dif_pos hx]
  have := hx.choose_spec
  rw [sq_inj this.1 h (this.2.trans e.symm)]
theorem rootW_no {x : Rat} (h : ∀ r : Rat, r * r ≠ x) : rootW x = .non := by
  unfold rootW
  rw [dif_neg]
  rintro ⟨r, _, e⟩
  exact h r e
theorem rootW_cases (x : Rat) : (∃ r : Rat, 0 ≤ r ∧ r * r = x ∧ rootW x = fr r) ∨ ((∀ r : Rat, r * r ≠ x) ∧ rootW x = .non) := by
  by_cases h : ∃ r : Rat, r * r = x
  · obtain ⟨r, e⟩ := h
    by_cases hr : 0 ≤ r
    · exact .inl ⟨r, hr, e, rootW_of hr e⟩
    · exact .inl ⟨-r, by grind, by grind, rootW_of (by grind) (by grind)⟩
  · have : ∀ r : Rat, r * r ≠ x := fun r e => h ⟨r, e⟩
    exact .inr ⟨this, rootW_no this⟩
@[simp] theorem plD_root {x : Rat} {n : Nat} : plD (rootW x) (n + 1) = true := by
  rcases rootW_cases x with ⟨r, _, _, h⟩ | ⟨_, h⟩ <;> rw [h]
  · rfl
  · exact plD_non
@[simp] theorem plD_root60 {x : Rat} : plD (rootW x) 60 = true := plD_root
@[simp] theorem plD_root59 {x : Rat} : plD (rootW x) 59 = true := plD_root
@[simp] theorem plD_root58 {x : Rat} : plD (rootW x) 58 = true := plD_root
theorem nat_sq_inj {a b : Nat} (h : a * a = b * b) : a = b := by
  rcases Nat.lt_trichotomy a b with z | z | z
  · have := Nat.mul_lt_mul'' z z; omega
  · exact z
  · have := Nat.mul_lt_mul'' z z; omega
theorem root_nat {x : Rat} {p q : Nat} (hx : 0 ≤ x) (hp : ∀ m : Nat, (m * m : Int) = x.num → m = p) (hq : ∀ m : Nat, (m * m : Int) = x.den → m = q) :
    (if (p * p : Int) = x.num ∧ (q * q : Int) = x.den then W.tup [.int p, .int q] else .non) = rootW x := by
  by_cases h : (p * p : Int) = x.num ∧ (q * q : Int) = x.den
  · rw [if_pos h]
    obtain ⟨h1, h2⟩ := h
    have h2' : q * q = x.den := by omega
    have h1' : p * p = x.num.natAbs := by omega
    have hq0 : q ≠ 0 := by
      intro z; subst z
      have := x.den_pos; omega
    have hc : Nat.gcd p q = 1 := by
      have hr := x.reduced
      unfold Nat.Coprime at hr
      rw [← h1', ← h2'] at hr
      have hd : Nat.gcd p q ∣ 1 := by
        rw [← hr]
        exact Nat.dvd_gcd (Nat.dvd_trans (Nat.gcd_dvd_left p q) (Nat.dvd_mul_left ..)) (Nat.dvd_trans (Nat.gcd_dvd_right p q) (Nat.dvd_mul_left ..))
      exact Nat.dvd_one.mp hd
    have e : (⟨(p : Int), q, hq0, hc⟩ : Rat) * ⟨(p : Int), q, hq0, hc⟩ = x := by
      have := rat_sq ⟨(p : Int), q, hq0, hc⟩
      apply Rat.ext
      · rw [this.1]; exact h1
      · rw [this.2]; exact h2'
    rw [rootW_of (r := ⟨(p : Int), q, hq0, hc⟩) (by rw [← Rat.num_nonneg]; show (0 : Int) ≤ p; omega) e]
    rfl
  · rw [if_neg h]
    refine (rootW_no fun r e => h ?_).symm
    have := rat_sq r
    rw [e] at this
    obtain ⟨h1, h2⟩ := this
    have e1 := hp r.num.natAbs (by rw [h1, Int.natAbs_mul_self'])
    have e2 := hq r.den (by rw [h2]; simp)
    rw [← e1, ← e2, h1, h2]
    exact ⟨by rw [Int.natAbs_mul_self'], by simp⟩
theorem isq_uniq {n : Nat} {x : Int} (h : x = n) (m : Nat) (e : (m * m : Int) = x) : m = Float64.isqrt n := by
  have e' : m * m = n := by
    have : ((m * m : Nat) : Int) = (n : Int) := by rw [← h, ← e]; simp
    exact_mod_cast this
  obtain ⟨h1, h2⟩ := Float64.isqrt_spec n
  rcases Nat.lt_trichotomy m (Float64.isqrt n) with z | z | z
  · have := Nat.mul_lt_mul'' z z; omega
  · exact z
  · have : (Float64.isqrt n + 1) * (Float64.isqrt n + 1) ≤ m * m := Nat.mul_le_mul z z
    omega
@[simp] theorem b_isqrt {i : Int} {n : Nat} [h : SzI i n] (h0 : 0 ≤ i) (hn : n ≤ 13000) : builtW "isqrt" [.int i] = some (.int ((Float64.isqrt i.toNat : Nat) : Int)) := by
  rw [builtW_isqrt]
  refine if_pos ⟨h0, ?_⟩
  have h1 := h.lt
  have : i.toNat = i.natAbs := by omega
  rw [this]
  exact Nat.le_trans (log2_le h1) hn
theorem isq_le (n : Nat) : Float64.isqrt n ≤ n := by
  obtain ⟨h1, _⟩ := Float64.isqrt_spec n
  exact Nat.le_trans (by
    rcases Nat.eq_zero_or_pos (Float64.isqrt n) with z | z
    · rw [z]; exact Nat.zero_le _
    · exact Nat.le_mul_of_pos_left _ z) h1
instance sz_isq {i : Int} {n : Nat} [h : SzI i n] : SzI ((Float64.isqrt i.toNat : Nat) : Int) n := ⟨by
  have h1 := isq_le i.toNat
  have h2 := h.lt
  omega⟩
theorem sz_root {r : Rat} {n : Nat} (h : Sz (r * r) n) : Sz r n := by
  obtain ⟨h1, h2⟩ := h
  obtain ⟨e1, e2⟩ := rat_sq r
  rw [e1, Int.natAbs_mul] at h1
  rw [e2] at h2
  constructor
  · rcases Nat.eq_zero_or_pos r.num.natAbs with z | z
    · rw [z]; exact Nat.two_pow_pos n
    · exact Nat.lt_of_le_of_lt (Nat.le_mul_of_pos_left _ z) h1
  · exact Nat.lt_of_le_of_lt (Nat.le_mul_of_pos_left _ r.den_pos) h2
theorem root_loop1 {S : Type} {F : Str → List W → S → Option (W × S)} {G : Str → Option W} {s : S} {x : Rat} {n : Nat} [hz : Sz x n] (hn : n < 100000) (hx : 0 ≤ x.num) {sl : Sl} {v : Str} {P1 P2 P3 P4 P5 P6 P7 P8 P9 P10 P11 P12 P13 : Pos} : ∀ (d p : Nat), x.num.toNat - p ≤ d → p ≤ x.num.toNat →
    ∃ p' : Nat, x.num ≤ (p' * p' : Int) ∧ (∀ m : Nat, m < p' → p ≤ m → (m * m : Int) < x.num) ∧ p' ≤ x.num.toNat ∧
      evS F G (.whl (.cmp (.bin (.var 1 v P1) .Mult (.var 1 v P2) P3) .Lt (.idx (.var 0 "one" P4) (.cst (.int 0) 0 P5) P6) P7) (.cons (.asg (.name 1 v P8) (.bin (.var 1 v P9) .Add (.cst (.int 1) 0 P10) P11) [] false P12) .nil) [] [] P13) [.val (fr x), .val (.int (p : Int)), sl] s = some (.nx, [.val (fr x), .val (.int (p' : Int)), sl], s) := by
  intro d
  induction d with
  | zero =>
    intro p h1 h2
    have hp : p = x.num.toNat := by omega
    have hge : x.num ≤ (p * p : Int) := by
      have h3 : p ≤ p * p := by
        rcases Nat.eq_zero_or_pos p with z | z
        · rw [z]; exact Nat.zero_le _
        · exact Nat.le_mul_of_pos_left _ z
      have h4 : ((p * p : Nat) : Int) = (p * p : Int) := by simp
      omega
    have i1 : SzI x.num n := inferInstance
    have i2 : SzI (p : Int) n := ⟨by have := i1.lt; omega⟩
    refine ⟨p, hge, fun m h3 h4 => by omega, h2, ?_⟩
    rw [s_whl]
    simp [show n + n < 1000000 by omega, show ¬ (p * p : Int) < x.num by omega]
  | succ d ih =>
    intro p h1 h2
    have i1 : SzI x.num n := inferInstance
    have i2 : SzI (p : Int) n := ⟨by have := i1.lt; omega⟩
    by_cases h : (p * p : Int) < x.num
    · have hlt : p < x.num.toNat := by
        have h3 : p ≤ p * p := by
          rcases Nat.eq_zero_or_pos p with z | z
          · rw [z]; exact Nat.zero_le _
          · exact Nat.le_mul_of_pos_left _ z
        have h4 : ((p * p : Nat) : Int) = (p * p : Int) := by simp
        omega
      obtain ⟨p', g1, g2, g3, g4⟩ := ih (p + 1) (by omega) (by omega)
      refine ⟨p', g1, fun m h3 h4 => ?_, g3, ?_⟩
      · rcases Nat.eq_or_lt_of_le h4 with z | z
        · subst z; exact h
        · exact g2 m h3 z
      · rw [s_whl]
        simp [show n + n < 1000000 by omega, h]
        simpa using g4
    · refine ⟨p, by omega, fun m h3 h4 => by omega, h2, ?_⟩
      rw [s_whl]
      simp [show n + n < 1000000 by omega, h]
theorem root_loop2 {S : Type} {F : Str → List W → S → Option (W × S)} {G : Str → Option W} {s : S} {x : Rat} {n : Nat} [hz : Sz x n] (hn : n < 100000) (hx : 0 ≤ x.num) {sl : Sl} {v : Str} {P1 P2 P3 P4 P5 P6 P7 P8 P9 P10 P11 P12 P13 : Pos} : ∀ (d p : Nat), (x.den : Int).toNat - p ≤ d → p ≤ (x.den : Int).toNat →
    ∃ p' : Nat, (x.den : Int) ≤ (p' * p' : Int) ∧ (∀ m : Nat, m < p' → p ≤ m → (m * m : Int) < (x.den : Int)) ∧ p' ≤ (x.den : Int).toNat ∧
      evS F G (.whl (.cmp (.bin (.var 2 v P1) .Mult (.var 2 v P2) P3) .Lt (.idx (.var 0 "one" P4) (.cst (.int 1) 0 P5) P6) P7) (.cons (.asg (.name 2 v P8) (.bin (.var 2 v P9) .Add (.cst (.int 1) 0 P10) P11) [] false P12) .nil) [] [] P13) [.val (fr x), sl, .val (.int (p : Int))] s = some (.nx, [.val (fr x), sl, .val (.int (p' : Int))], s) := by
  intro d
  induction d with
  | zero =>
    intro p h1 h2
    have hp : p = (x.den : Int).toNat := by omega
    have hge : (x.den : Int) ≤ (p * p : Int) := by
      have h3 : p ≤ p * p := by
        rcases Nat.eq_zero_or_pos p with z | z
        · rw [z]; exact Nat.zero_le _
        · exact Nat.le_mul_of_pos_left _ z
      have h4 : ((p * p : Nat) : Int) = (p * p : Int) := by simp
      omega
    have i1 : SzI (x.den : Int) n := inferInstance
    have i2 : SzI (p : Int) n := ⟨by have := i1.lt; omega⟩
    refine ⟨p, hge, fun m h3 h4 => by omega, h2, ?_⟩
    rw [s_whl]
    simp [show n + n < 1000000 by omega, show ¬ (p * p : Int) < (x.den : Int) by omega]
  | succ d ih =>
    intro p h1 h2
    have i1 : SzI (x.den : Int) n := inferInstance
    have i2 : SzI (p : Int) n := ⟨by have := i1.lt; omega⟩
    by_cases h : (p * p : Int) < (x.den : Int)
    · have hlt : p < (x.den : Int).toNat := by
        have h3 : p ≤ p * p := by
          rcases Nat.eq_zero_or_pos p with z | z
          · rw [z]; exact Nat.zero_le _
          · exact Nat.le_mul_of_pos_left _ z
        have h4 : ((p * p : Nat) : Int) = (p * p : Int) := by simp
        omega
      obtain ⟨p', g1, g2, g3, g4⟩ := ih (p + 1) (by omega) (by omega)
      refine ⟨p', g1, fun m h3 h4 => ?_, g3, ?_⟩
      · rcases Nat.eq_or_lt_of_le h4 with z | z
        · subst z; exact h
        · exact g2 m h3 z
      · rw [s_whl]
        simp [show n + n < 1000000 by omega, h]
        simpa using g4
    · refine ⟨p, by omega, fun m h3 h4 => by omega, h2, ?_⟩
      rw [s_whl]
      simp [show n + n < 1000000 by omega, h]
theorem least_sq {p : Nat} {n : Int} {b : Nat} (h1 : n ≤ (p * p : Int)) (h2 : ∀ m : Nat, m < p → b ≤ m → (m * m : Int) < n) (m : Nat) (hb : b ≤ m) (e : (m * m : Int) = n) : m = p := by
  rcases Nat.lt_trichotomy m p with z | z | z
  · have := h2 m z hb; omega
  · exact z
  · have h3 := Nat.mul_lt_mul'' z z
    have h4 : ((p * p : Nat) : Int) = (p * p : Int) := by simp
    have h5 : ((m * m : Nat) : Int) = (m * m : Int) := by simp
    omega
/-! sorted -/
theorem le_tot (a b : W) : PySem.W.dataLe false toD a b = true ∨ PySem.W.dataLe false toD b a = true :=
  (PySem.W.sortLe_total _ false _).total a b
theorem sort2 {a b : W} : [a, b].mergeSort (PySem.W.dataLe false toD) = if PySem.W.dataLe false toD a b then [a, b] else [b, a] := by
  simp [List.mergeSort, List.MergeSort.Internal.splitInTwo, List.merge]
def srt (a b : W) : List W := if PySem.W.dataLe false toD a b then [a, b] else [b, a]
theorem srt_cases (a b : W) : (srt a b = [a, b] ∧ PySem.W.dataLe false toD a b = true) ∨ (srt a b = [b, a] ∧ PySem.W.dataLe false toD b a = true) := by
  unfold srt
  by_cases h : PySem.W.dataLe false toD a b = true
  · rw [if_pos h]; exact .inl ⟨rfl, h⟩
  · rw [if_neg h]; exact .inr ⟨rfl, (le_tot a b).resolve_left h⟩
theorem srt_of {a b : W} (h : PySem.W.dataLe false toD a b = true) : srt a b = [a, b] := by unfold srt; rw [if_pos h]
@[simp] theorem b_sorted_pl {a b c d : Rat} : builtW "sorted" [.lst [.tup [fr a, fr b], .tup [fr c, fr d]]] = some (.lst (srt (.tup [fr a, fr b]) (.tup [fr c, fr d]))) := by
  rw [builtW_sorted]
  have h : sortOk [.tup [fr a, fr b], .tup [fr c, fr d]] = true := rfl
  show (if sortOk [.tup [fr a, fr b], .tup [fr c, fr d]] = true then some (W.lst (List.mergeSort [W.tup [fr a, fr b], W.tup [fr c, fr d]] (PySem.W.dataLe false toD))) else none) = _
  rw [if_pos h, sort2]; rfl
@[simp] theorem b_sorted_plt {a b c d : Rat} : builtW "sorted" [.tup [.tup [fr a, fr b], .tup [fr c, fr d]]] = some (.lst (srt (.tup [fr a, fr b]) (.tup [fr c, fr d]))) := by
  rw [builtW_sorted]
  have h : sortOk [.tup [fr a, fr b], .tup [fr c, fr d]] = true := rfl
  show (if sortOk [.tup [fr a, fr b], .tup [fr c, fr d]] = true then some (W.lst (List.mergeSort [W.tup [fr a, fr b], W.tup [fr c, fr d]] (PySem.W.dataLe false toD))) else none) = _
  rw [if_pos h, sort2]; rfl
end MP

/-! CN: conics as rows of six ints. -/
namespace MP
open PySem PySem.Spec PyProof.Rows L2
/-- a row in lowest terms, its first number above 0 -/
def Bare (R : List Int) : Prop := gN R = 1 ∧ sgnI R = true
theorem bare_whole {l : List Rat} (h : ∃ x ∈ l, x ≠ 0) : Bare (whole l) := ⟨whole_gcd h, whole_sgn h⟩
theorem nz_rat {R : List Int} (h : ∃ i ∈ R, i ≠ 0) : ∃ x ∈ R.map (fun z : Int => (z : Rat)), x ≠ 0 := by
  obtain ⟨i, hi, h⟩ := h
  exact ⟨(i : Rat), List.mem_map.mpr ⟨i, hi, rfl⟩, fun z => h (by exact_mod_cast z)⟩
theorem bare_told {R : List Int} (h : ∃ i ∈ R, i ≠ 0) : Bare (toldI R) := by
  rw [toldI_whole]
  exact bare_whole (nz_rat h)
theorem toldI_bare {R : List Int} (h : Bare R) : toldI R = R := by
  unfold toldI
  rw [h.1, h.2]
  simp
theorem map_inj' {α β : Type} {f : α → β} (hf : ∀ a b, f a = f b → a = b) : ∀ {l m : List α}, l.map f = m.map f → l = m
  | [], [], _ => rfl
  | [], _ :: _, h => by cases h
  | _ :: _, [], h => by cases h
  | a :: l, b :: m, h => by
    rw [List.map_cons, List.map_cons, List.cons.injEq] at h
    rw [hf _ _ h.1, map_inj' hf h.2]
theorem bare_uniq {R R' : List Int} {k : Rat} (h : Bare R) (h' : Bare R') (hk : k ≠ 0) (e : R.map (fun z : Int => (z : Rat)) = R'.map (fun z : Int => k * (z : Rat))) : R = R' := by
  have hd := den_ne k
  have hdq := den_ne' k
  have hn := rat_num k
  have m1 : R.map (fun i => ((k.den : Nat) : Int) * i) = R'.map (fun i => k.num * i) := by
    have e2 : (R.map (fun i => ((k.den : Nat) : Int) * i)).map (fun z : Int => (z : Rat)) = (R'.map (fun i => k.num * i)).map (fun z : Int => (z : Rat)) := by
      rw [List.map_map, List.map_map]
      have e3 := congrArg (List.map (fun x : Rat => ((k.den : Int) : Rat) * x)) e
      rw [List.map_map, List.map_map] at e3
      rw [show ((fun z : Int => (z : Rat)) ∘ fun i => ((k.den : Nat) : Int) * i) = ((fun x : Rat => ((k.den : Int) : Rat) * x) ∘ fun z : Int => (z : Rat)) by
        funext i; simp only [Function.comp, Rat.intCast_mul]]
      rw [e3]
      apply List.map_congr_left
      intro i _
      simp only [Function.comp, Rat.intCast_mul]
      generalize ((k.den : Int) : Rat) = d at *
      generalize (k.num : Rat) = n at *
      grind
    exact map_inj' (fun a b h => by
      have : (a : Rat) = (b : Rat) := h
      exact_mod_cast this) e2
  have g1 : gN (R.map fun i => ((k.den : Nat) : Int) * i) = k.den := by rw [gN_mul, h.1]; omega
  have g2 : gN (R'.map fun i => ((k.num.natAbs : Nat) : Int) * i) = k.num.natAbs := by rw [gN_mul, h'.1]; omega
  have hp := k.den_pos
  rcases Int.natAbs_eq k.num with q | q
  · rw [q] at m1
    have g4 : k.den = k.num.natAbs := by rw [← g1, m1, g2]
    rw [← g4] at m1
    exact map_inj' (fun a b h => Int.eq_of_mul_eq_mul_left hd h) m1
  · exfalso
    rw [q] at m1
    have m2 : R.map (fun i => ((k.den : Nat) : Int) * i) = (R'.map fun i => -i).map (fun i => ((k.num.natAbs : Nat) : Int) * i) := by
      rw [m1, List.map_map]
      apply List.map_congr_left
      intro i _
      simp only [Function.comp, Int.mul_neg, Int.neg_mul]
    have hq : 0 < k.num.natAbs := by have := num_ne hk; omega
    have s1 : sgnI (R.map fun i => ((k.den : Nat) : Int) * i) = true := by rw [sgn_mul (by omega)]; exact h.2
    have s2 : sgnI ((R'.map fun i => -i).map fun i => ((k.num.natAbs : Nat) : Int) * i) = sgnI (R'.map fun i => -i) := sgn_mul (by omega)
    rw [m2, s2] at s1
    have : sgnI (R'.map fun i => -i) = false := by
      have h2 := h'.2
      have h1 := h'.1
      clear m1 m2 s1 s2 g1 g2 e h h' q
      induction R' with
      | nil => simp [gN] at h1
      | cons i r ih =>
        by_cases hi : i = 0
        · subst hi
          have e1 : gN (0 :: r) = gN r := by simp [gN]
          simpa [sgnI] using ih (by simpa [sgnI] using h2) (by rw [← e1]; exact h1)
        · simp [sgnI, hi] at h2 ⊢
          omega
    rw [this] at s1
    cases s1
/-- the kind of a conic by its numbers -/
def kindI (a b c d e f : Int) : Str :=
  if 2 * a * (2 * c * (2 * f) - e * e) + b * (e * d - b * (2 * f)) + d * (b * e - 2 * c * d) ≠ 0 then
    if 4 * a * c - b * b = 0 then "parabola" else if 4 * a * c - b * b < 0 then "hyperbola" else
    if (a + c) * (2 * a * (2 * c * (2 * f) - e * e) + b * (e * d - b * (2 * f)) + d * (b * e - 2 * c * d)) < 0 then "ellipse" else "no places"
  else if 4 * a * c - b * b ≠ 0 then if 0 < 4 * a * c - b * b then "one place" else "two lines"
  else if 0 < d * d - 4 * a * f ∨ 0 < e * e - 4 * c * f then "level lines"
  else if d * d - 4 * a * f = 0 ∧ e * e - 4 * c * f = 0 then "double line" else "no places"
end MP

/-! FO: conics by focus and rim. -/
namespace MP
open PySem PySem.Spec PyProof.Rows L2
/-- a conic's row is k times that of the focus (x, y), the rim (a, b, c), u = ratio / (a a + b b) -/
structure FoR (k u x y a b c K1 K2 K3 K4 K5 K6 : Rat) : Prop where
  h1 : K1 = k * (1 - u * (a * a))
  h2 : K2 = k * (-2 * (u * (a * b)))
  h3 : K3 = k * (1 - u * (b * b))
  h4 : K4 = k * (-2 * (x + u * (a * c)))
  h5 : K5 = k * (-2 * (y + u * (b * c)))
  h6 : K6 = k * (x * x + y * y - u * (c * c))
section
variable {k u x y a b c K1 K2 K3 K4 K5 K6 : Rat}
theorem FoR.worth (h : FoR k u x y a b c K1 K2 K3 K4 K5 K6) (X Y : Rat) : K1 * (X * X) + K2 * (X * Y) + K3 * (Y * Y) + K4 * X + K5 * Y + K6 = k * ((X - x) * (X - x) + (Y - y) * (Y - y) - u * ((a * X + b * Y + c) * (a * X + b * Y + c))) := by
  obtain ⟨rfl, rfl, rfl, rfl, rfl, rfl⟩ := h
  grind
theorem FoR.small (h : FoR k u x y a b c K1 K2 K3 K4 K5 K6) : 4 * K1 * K3 - K2 * K2 = 4 * (k * k) * (1 - u * (a * a + b * b)) := by
  obtain ⟨rfl, rfl, rfl, rfl, rfl, rfl⟩ := h
  grind
theorem FoR.a33 (h : FoR k u x y a b c K1 K2 K3 K4 K5 K6) : 2 * K1 * (2 * K3) - K2 * K2 = 4 * (k * k) * (1 - u * (a * a + b * b)) := by
  obtain ⟨rfl, rfl, rfl, rfl, rfl, rfl⟩ := h
  grind
theorem FoR.a11 (h : FoR k u x y a b c K1 K2 K3 K4 K5 K6) : 2 * K3 * (2 * K6) - K5 * K5 = 4 * (k * k) * (-(u * ((a * x + b * y + c) * (a * x + b * y + c))) + 2 * (x * (u * a * (a * x + b * y + c))) + x * x * (1 - u * (a * a + b * b))) := by
  obtain ⟨rfl, rfl, rfl, rfl, rfl, rfl⟩ := h
  grind
theorem FoR.a22 (h : FoR k u x y a b c K1 K2 K3 K4 K5 K6) : 2 * K1 * (2 * K6) - K4 * K4 = 4 * (k * k) * (-(u * ((a * x + b * y + c) * (a * x + b * y + c))) + 2 * (y * (u * b * (a * x + b * y + c))) + y * y * (1 - u * (a * a + b * b))) := by
  obtain ⟨rfl, rfl, rfl, rfl, rfl, rfl⟩ := h
  grind
theorem FoR.a12 (h : FoR k u x y a b c K1 K2 K3 K4 K5 K6) : K4 * K5 - K2 * (2 * K6) = 4 * (k * k) * (x * (u * b * (a * x + b * y + c)) + y * (u * a * (a * x + b * y + c)) + x * y * (1 - u * (a * a + b * b))) := by
  obtain ⟨rfl, rfl, rfl, rfl, rfl, rfl⟩ := h
  grind
theorem FoR.a13 (h : FoR k u x y a b c K1 K2 K3 K4 K5 K6) : K2 * K5 - 2 * K3 * K4 = 4 * (k * k) * (u * a * (a * x + b * y + c) + x * (1 - u * (a * a + b * b))) := by
  obtain ⟨rfl, rfl, rfl, rfl, rfl, rfl⟩ := h
  grind
theorem FoR.a23 (h : FoR k u x y a b c K1 K2 K3 K4 K5 K6) : K2 * K4 - 2 * K1 * K5 = 4 * (k * k) * (u * b * (a * x + b * y + c) + y * (1 - u * (a * a + b * b))) := by
  obtain ⟨rfl, rfl, rfl, rfl, rfl, rfl⟩ := h
  grind
theorem FoR.great (h : FoR k u x y a b c K1 K2 K3 K4 K5 K6) : 2 * K1 * (2 * K3 * (2 * K6) - K5 * K5) + K2 * (K5 * K4 - K2 * (2 * K6)) + K4 * (K2 * K5 - 2 * K3 * K4) = -8 * (k * (k * k)) * (u * ((a * x + b * y + c) * (a * x + b * y + c))) := by
  rw [h.a11, h.a13, show K5 * K4 - K2 * (2 * K6) = K4 * K5 - K2 * (2 * K6) by grind, h.a12, h.h1, h.h2, h.h4]
  grind
/-- the rows of the focus -/
theorem FoR.pol (h : FoR k u x y a b c K1 K2 K3 K4 K5 K6) : 2 * K1 * x + (K2 * y + K4) = -2 * (k * u) * ((a * x + b * y + c) * a) ∧ K2 * x + (2 * K3 * y + K5) = -2 * (k * u) * ((a * x + b * y + c) * b) ∧ K4 * x + (K5 * y + 2 * K6) = -2 * (k * u) * ((a * x + b * y + c) * c) := by
  obtain ⟨rfl, rfl, rfl, rfl, rfl, rfl⟩ := h
  refine ⟨by grind, by grind, by grind⟩
end
theorem rsq2 {p q : Rat} (h : p * p + q * q = 0) : p = 0 ∧ q = 0 := by
  by_cases hp : p = 0
  · refine ⟨hp, ?_⟩
    subst hp
    by_cases hq : q = 0
    · exact hq
    · have := rsq_pos hq; grind
  · have h1 := rsq_pos hp
    by_cases hq : q = 0
    · subst hq; grind
    · have := rsq_pos hq; grind
/-- both equations of a focus: a square root over pairs -/
theorem sq_pairs {f A B p q : Rat} : (f * (p * p - q * q) = 2 * (A * p - B * q) ∧ f * (p * q) = A * q + B * p) ↔ ((p = 0 ∧ q = 0) ∨ (f * p = 2 * A ∧ f * q = 2 * B)) := by
  constructor
  · rintro ⟨h1, h2⟩
    by_cases h : p * p + q * q = 0
    · exact .inl (rsq2 h)
    · right
      have e1 : (p * p + q * q) * (f * p - 2 * A) = 0 := by grind
      have e2 : (p * p + q * q) * (f * q - 2 * B) = 0 := by grind
      rcases Rat.mul_eq_zero.mp e1 with z | z
      · exact absurd z h
      · rcases Rat.mul_eq_zero.mp e2 with w | w
        · exact absurd w h
        · exact ⟨by grind, by grind⟩
  · rintro (⟨rfl, rfl⟩ | ⟨h1, h2⟩)
    · grind
    · have e1 : f * (p * p - q * q) = (f * p) * p - (f * q) * q := by grind
      have e2 : 2 * (f * (p * q)) = (f * p) * q + (f * q) * p := by grind
      rw [h1, h2] at e1 e2
      exact ⟨by grind, by grind⟩
/-- the dual row tells the focuses -/
theorem foc_iff {m F A B G x y x1 x2 x3 x4 x5 x6 X Y : Rat} (hm : m ≠ 0) (h1 : x1 = m * (-G + 2 * (x * A) + x * x * F)) (h2 : x2 = m * (2 * (x * B + y * A + x * y * F))) (h3 : x3 = m * (-G + 2 * (y * B) + y * y * F)) (h4 : x4 = m * (2 * (A + x * F))) (h5 : x5 = m * (2 * (B + y * F))) (h6 : x6 = m * F) :
    (x1 - x4 * X + x6 * (X * X) = x3 - x5 * Y + x6 * (Y * Y) ∧ x2 - x4 * Y - x5 * X + 2 * (x6 * (X * Y)) = 0) ↔ ((X - x = 0 ∧ Y - y = 0) ∨ (F * (X - x) = 2 * A ∧ F * (Y - y) = 2 * B)) := by
  rw [← sq_pairs]
  subst h1 h2 h3 h4 h5 h6
  constructor
  · rintro ⟨e1, e2⟩
    have g1 : m * (F * ((X - x) * (X - x) - (Y - y) * (Y - y)) - 2 * (A * (X - x) - B * (Y - y))) = 0 := by grind
    have g2 : m * (2 * (F * ((X - x) * (Y - y)) - (A * (Y - y) + B * (X - x)))) = 0 := by grind
    rcases Rat.mul_eq_zero.mp g1 with z | z
    · exact absurd z hm
    · rcases Rat.mul_eq_zero.mp g2 with w | w
      · exact absurd w hm
      · exact ⟨by grind, by grind⟩
  · rintro ⟨e1, e2⟩
    have g1 : m * (F * ((X - x) * (X - x) - (Y - y) * (Y - y)) - 2 * (A * (X - x) - B * (Y - y))) = 0 := by rw [e1]; grind
    have g2 : m * (2 * (F * ((X - x) * (Y - y)) - (A * (Y - y) + B * (X - x)))) = 0 := by rw [e2]; grind
    exact ⟨by grind, by grind⟩
theorem two_m (m z : Rat) : 2 * (m * z) = m * (2 * z) := by grind
theorem pf_eq {κ m A B G x y x1 x2 x3 x4 x5 : Rat} (h1 : x1 = κ * (m * (-G + 2 * (x * A) + x * x * (1 - 1)))) (h2 : x2 = κ * (m * (2 * (x * B + y * A + x * y * (1 - 1))))) (h3 : x3 = κ * (m * (-G + 2 * (y * B) + y * y * (1 - 1)))) (h4 : x4 = κ * (m * (2 * (A + x * (1 - 1))))) (h5 : x5 = κ * (m * (2 * (B + y * (1 - 1))))) :
    x4 * (x1 - x3) + x5 * x2 = x * (x4 * x4 + x5 * x5) ∧ x4 * x2 - x5 * (x1 - x3) = y * (x4 * x4 + x5 * x5) := by
  subst h1 h2 h3 h4 h5
  exact ⟨by grind, by grind⟩
theorem mid_eq {q H P m f A x : Rat} (e : q * H = P) (fH : H = m * f) (fP : P = m * (A + x * f)) (m0 : m ≠ 0) : f * (q - x) = A := by
  subst fH fP
  have : m * (f * (q - x) - A) = 0 := by grind
  rcases Rat.mul_eq_zero.mp this with w | w
  · exact absurd w m0
  · grind
theorem z_one {κ m A x f : Rat} (h : κ * (m * (2 * (A + x * f))) = 0) (hf : f = 0) (hκ : κ ≠ 0) (hm : m ≠ 0) : A = 0 := by
  subst hf
  rcases Rat.mul_eq_zero.mp h with w | w
  · exact absurd w hκ
  · rcases Rat.mul_eq_zero.mp w with w | w
    · exact absurd w hm
    · grind
theorem pull3 {l p q r x y a b c : Rat} (hp : p = l * x) (hq : q = l * y) (hr : r = l * 1) {Z : Rat} (h : a * x + (b * y + c) = Z) : a * p + (b * q + c * r) = l * Z := by
  subst hp hq hr h
  grind
/-- a row in lowest terms is what any multiple of it is told as -/
theorem told_uniq {R R' : List Int} {κ : Rat} (h0 : ∃ i ∈ R, i ≠ 0) (h' : Bare R') (hκ : κ ≠ 0) (e : R.map (fun z : Int => (z : Rat)) = R'.map (fun z : Int => κ * (z : Rat))) : toldI R = R' := by
  obtain ⟨k, hk, hw⟩ := whole_rat (nz_rat h0)
  rw [← toldI_whole, e, List.map_map] at hw
  refine bare_uniq (k := k * κ) (bare_told h0) h' (rmul_ne hk hκ) ?_
  rw [hw]
  apply List.map_congr_left
  intro i _
  simp only [Function.comp, Rat.mul_assoc]
theorem half_sub {A B t : Rat} (h : A ≠ 0 ∨ B ≠ 0) : ¬ (A = 2 * A ∧ B = 2 * B) := by
  rintro ⟨h1, h2⟩
  rcases h with h | h
  · apply h; grind
  · apply h; grind
end MP

/-! RL: loops that draw until a drawn row is good come to an end. -/
namespace MP
open PySem PySem.Spec PyProof.Rows L2
/-- k numbers below m are drawn -/
def dsn (m : Int) : Nat → DS → List Int × DS
  | 0, s => ([], s)
  | k + 1, s => ((drw s m).1 :: (dsn m k (drw s m).2).1, (dsn m k (drw s m).2).2)
def dsS (m : Int) : Nat → Int → List Int
  | 0, _ => []
  | k + 1, z => lcg z / 64 % m :: dsS m k (lcg z)
theorem dsn_emp {m : Int} : ∀ {k : Nat} {s : DS}, emp s → (dsn m k s).1 = dsS m k s.seed ∧ emp (dsn m k s).2 ∧ (dsn m k s).2.seed = itn lcg k s.seed
  | 0, s, h => ⟨rfl, h, rfl⟩
  | k + 1, s, h => by
    obtain ⟨h1, h2, h3⟩ := drw_emp (m := m) h
    obtain ⟨g1, g2, g3⟩ := dsn_emp (m := m) (k := k) h2
    refine ⟨?_, g2, ?_⟩
    · show _ :: _ = _ :: _
      rw [h1, g1, h3]
    · show (dsn m k (drw s m).2).2.seed = _
      rw [g3, h3]; rfl
theorem dsn_mu {m : Int} (hm : 0 < m) : ∀ {k : Nat} {s : DS}, mu (dsn m k s).2.cells ≤ mu s.cells
  | 0, s => Int.le_refl _
  | k + 1, s => Int.le_trans (dsn_mu hm (k := k)) (drw_mu hm)
theorem dsn_mu_lt {m : Int} (hm : 2 ≤ m) {k : Nat} {s : DS} (hn : ¬ emp s) : mu (dsn m (k + 1) s).2.cells < mu s.cells :=
  Int.lt_of_le_of_lt (b := mu (drw s m).2.cells) (dsn_mu (k := k) (s := (drw s m).2) (by omega)) (drw_mu_lt hm hn)
theorem dsn_len {m : Int} : ∀ {k : Nat} {s : DS}, (dsn m k s).1.length = k
  | 0, s => rfl
  | k + 1, s => by show _ + 1 = _; rw [dsn_len]
theorem dsn_lt {m : Int} (hm : 0 < m) : ∀ {k : Nat} {s : DS}, ∀ x ∈ (dsn m k s).1, 0 ≤ x ∧ x < m
  | 0, s, x, h => by cases h
  | k + 1, s, x, h => by
    rcases List.mem_cons.mp h with rfl | h
    · exact drw_lt s hm
    · exact dsn_lt hm x h
/-- rounds of T draws pass all rows of T0 -/
def Reach (T T0 : Nat) : Prop := ∀ z : Int, (0 ≤ z ∧ z < 2147483647) → z ≠ (934936168 : Int) → ∃ j, j < T0 ∧ ∀ q, ∃ n, itn lcg (T * n) z = itn lcg (j + T0 * q) ((934936168 : Int) + 1)
theorem reach_of {T : Nat} (h0 : 0 < T) (hT : (2147483646 : Nat) % T = 0) : Reach T T := fun _ hs hf => reach h0 hT hs hf
theorem lcg_round {z : Int} (hz : 0 ≤ z ∧ z < 2147483647) : itn lcg (2147483646 : Nat) z = z := by
  refine dst_inj (itn_lt hz) hz ?_
  rw [dst_itn, ← Nat.mod_mul_mod, pw_one, Nat.one_mul, Nat.mod_eq_of_lt dst_lt]
theorem reach4 : Reach 4 2 := by
  intro z hz hf
  obtain ⟨j, hj, h⟩ := reach (T := 2) (by decide) (by decide) hz hf
  refine ⟨j, hj, fun q => ?_⟩
  obtain ⟨n, hn⟩ := h q
  rcases Nat.mod_two_eq_zero_or_one n with e | e
  · refine ⟨n / 2, ?_⟩
    rw [← hn]
    congr 1
    omega
  · refine ⟨(n + 1073741823) / 2, ?_⟩
    rw [← hn, show 4 * ((n + 1073741823) / 2) = (2147483646 : Nat) + 2 * n from by omega, itn_add, lcg_round hz]
/-- a good round comes -/
theorem comes {α : Type} {T T0 : Nat} (hT : Reach T T0) (f : DS → α × DS) (g : Int → α) (good : α → Bool)
    (he : ∀ s, emp s → (f s).1 = g s.seed ∧ emp (f s).2 ∧ (f s).2.seed = itn lcg T s.seed)
    (hm : ∀ s, ¬ emp s → mu (f s).2.cells < mu s.cells)
    (tab : ∀ j, j < T0 → ∃ q, good (g (itn lcg (j + T0 * q) (934936168 + 1))) = true) (s : DS) : ∃ n, good (f (itn (fun s => (f s).2) n s)).1 = true := by
  have it : ∀ {n : Nat} {s : DS}, emp s → emp (itn (fun s => (f s).2) n s) ∧ (itn (fun s => (f s).2) n s).seed = itn lcg (T * n) s.seed := by
    intro n
    induction n with
    | zero => exact fun h => ⟨h, rfl⟩
    | succ n ih =>
      intro s h
      obtain ⟨h1, h2, h3⟩ := he s h
      obtain ⟨g1, g2⟩ := ih h2
      refine ⟨g1, ?_⟩
      rw [itn, g2, h3, show T * (n + 1) = T + T * n from by rw [Nat.mul_add]; omega, itn_add]
  have fin : ∀ s : DS, emp s → ∃ n, good (f (itn (fun s => (f s).2) n s)).1 = true := by
    intro s h
    obtain ⟨j, hj, hr⟩ := hT s.seed s.sd.1 s.sd.2
    obtain ⟨q, hq⟩ := tab j hj
    obtain ⟨n, hn⟩ := hr q
    obtain ⟨g1, g2⟩ := it (n := n) h
    refine ⟨n, ?_⟩
    rw [(he _ g1).1, g2, hn]
    exact hq
  have key : ∀ (k : Nat) (s : DS), (mu s.cells).toNat ≤ k → ∃ n, good (f (itn (fun s => (f s).2) n s)).1 = true := by
    intro k
    induction k with
    | zero =>
      intro s hk
      by_cases h : emp s
      · exact fin s h
      · have := hm s h
        have := mu_nn (f s).2.nn
        omega
    | succ k ih =>
      intro s hk
      by_cases h : emp s
      · exact fin s h
      · have h1 := hm s h
        have h2 := mu_nn (f s).2.nn
        obtain ⟨n, hn⟩ := ih (f s).2 (by omega)
        exact ⟨n + 1, hn⟩
  exact key _ s (Nat.le_refl _)
/-- first of the rounds that is good: by the number of rounds -/
theorem rounds {α : Type} {f : DS → α × DS} {good : α → Bool} {C : DS → Prop} (one : ∀ s, good (f s).1 = true → C s) (two : ∀ s, good (f s).1 = false → C (f s).2 → C s) : ∀ (n : Nat) (s : DS), good (f (itn (fun s => (f s).2) n s)).1 = true → C s
  | 0, s, h => one s h
  | n + 1, s, h => by
    cases e : good (f s).1 with
    | true => exact one s e
    | false => exact two s e (rounds one two n (f s).2 h)
/-- six numbers of -top to top, not all of the first three 0 -/
def okSix (top : Int) (l : List Int) : Bool := match l with
  | a :: b :: c :: _ => a != top || b != top || c != top
  | _ => false
/-- tops that are asked for -/
def tops : List Int := [2, 3, 4, 5, 6, 9, 1000]
set_option maxRecDepth 1000000 in
theorem six_tab : ∀ top ∈ tops, ∀ j, j < 6 → okSix top (dsS (2 * top + 1) 6 (itn lcg (j + 6 * 0) (934936168 + 1))) = true ∨ okSix top (dsS (2 * top + 1) 6 (itn lcg (j + 6 * 1) (934936168 + 1))) = true := by decide +kernel
theorem six_comes {top : Int} (ht : top ∈ tops) (s : DS) : ∃ n, okSix top (dsn (2 * top + 1) 6 (itn (fun s => (dsn (2 * top + 1) 6 s).2) n s)).1 = true := by
  have h2 : 2 ≤ top := by
    have : ∀ t ∈ tops, 2 ≤ t := by decide
    exact this top ht
  refine comes (reach_of (T := 6) (by decide) (by decide)) (dsn (2 * top + 1) 6) (dsS (2 * top + 1) 6) (okSix top) (fun s h => dsn_emp h) (fun s h => dsn_mu_lt (by omega) h) (fun j hj => ?_) s
  rcases six_tab top ht j hj with h | h
  · exact ⟨_, h⟩
  · exact ⟨_, h⟩
/-- a table of four ints that keeps lines, not the one that moves nothing -/
def okLed (l : List Int) : Bool := match l with
  | [a, b, c, d] => (a - 2) * (d - 2) - (b - 2) * (c - 2) != 0 && !(a - 2 == 1 && b - 2 == 0 && c - 2 == 0 && d - 2 == 1)
  | _ => false
set_option maxRecDepth 1000000 in
theorem led_tab : ∀ j, j < 2 → okLed (dsS 5 4 (itn lcg (j + 2 * 0) (934936168 + 1))) = true ∨ okLed (dsS 5 4 (itn lcg (j + 2 * 1) (934936168 + 1))) = true ∨ okLed (dsS 5 4 (itn lcg (j + 2 * 2) (934936168 + 1))) = true := by decide +kernel
theorem led_comes (s : DS) : ∃ n, okLed (dsn 5 4 (itn (fun s => (dsn 5 4 s).2) n s)).1 = true := by
  refine comes reach4 (dsn 5 4) (dsS 5 4) okLed (fun s h => dsn_emp h) (fun s h => dsn_mu_lt (by omega) h) (fun j hj => ?_) s
  rcases led_tab j hj with h | h | h
  · exact ⟨_, h⟩
  · exact ⟨_, h⟩
  · exact ⟨_, h⟩
def ssAt : ISs → Nat → IS
  | .nil, _ => .pass ⟨0, 0, 0, 0⟩
  | .cons s _, 0 => s
  | .cons _ r, n + 1 => ssAt r n
/-- whether a row is a conic -/
def isC (R : List Int) : Bool := decide (R.length = 6) && (decide ((R.take 3).filter (· ≠ 0) ≠ []) && decide (toldI R = R))
theorem six_nz {a b c d e f : Int} (h : ¬ (a = 0 ∧ b = 0 ∧ c = 0)) : ∃ i ∈ [a, b, c, d, e, f], i ≠ 0 := by
  by_cases c1 : a = 0
  · by_cases c2 : b = 0
    · exact ⟨c, by simp, fun c3 => h ⟨c1, c2, c3⟩⟩
    · exact ⟨b, by simp, c2⟩
  · exact ⟨a, by simp, c1⟩
end MP

/-! KI: the kind of a conic stays when the plane is led; places of conics that have none or one. -/
namespace MP
open PySem PySem.Spec PyProof.Rows L2
def gN3 (a b c d e f : Rat) : Rat := 2 * a * (2 * c * (2 * f) - e * e) + b * (e * d - b * (2 * f)) + d * (b * e - 2 * c * d)
def hN2 (a b c : Rat) : Rat := 4 * a * c - b * b
def iN2 (a d f : Rat) : Rat := d * d - 4 * a * f
/-- the kind, of fractions -/
def kindQ (a b c d e f : Rat) : Str :=
  if gN3 a b c d e f ≠ 0 then
    if hN2 a b c = 0 then "parabola" else if hN2 a b c < 0 then "hyperbola" else
    if (a + c) * gN3 a b c d e f < 0 then "ellipse" else "no places"
  else if hN2 a b c ≠ 0 then if 0 < hN2 a b c then "one place" else "two lines"
  else if 0 < iN2 a d f ∨ 0 < iN2 c e f then "level lines"
  else if iN2 a d f = 0 ∧ iN2 c e f = 0 then "double line" else "no places"
theorem kindI_Q (a b c d e f : Int) : kindI a b c d e f = kindQ a b c d e f := by
  unfold kindI kindQ
  have e1 : gN3 a b c d e f = ((2 * a * (2 * c * (2 * f) - e * e) + b * (e * d - b * (2 * f)) + d * (b * e - 2 * c * d) : Int) : Rat) := by
    unfold gN3
    simp only [Rat.intCast_add, Rat.intCast_mul, Rat.intCast_sub]
    rfl
  have e2 : hN2 a b c = ((4 * a * c - b * b : Int) : Rat) := by
    unfold hN2
    simp only [Rat.intCast_mul, Rat.intCast_sub]
    rfl
  have e3 : ∀ a d f : Int, iN2 a d f = ((d * d - 4 * a * f : Int) : Rat) := by
    intro a d f
    unfold iN2
    simp only [Rat.intCast_mul, Rat.intCast_sub]
    rfl
  rw [e1, e2, e3, e3]
  generalize 2 * a * (2 * c * (2 * f) - e * e) + b * (e * d - b * (2 * f)) + d * (b * e - 2 * c * d) = g
  generalize 4 * a * c - b * b = h
  generalize d * d - 4 * a * f = i
  generalize e * e - 4 * c * f = j
  have z : ∀ x : Int, ((x : Rat) = 0) = (x = 0) := fun x => propext ⟨fun q => by exact_mod_cast q, fun q => by rw [q]; rfl⟩
  have l : ∀ x : Int, ((x : Rat) < 0) = (x < 0) := fun x => propext ⟨fun q => by exact_mod_cast q, fun q => by exact_mod_cast q⟩
  have p : ∀ x : Int, ((0 : Rat) < x) = (0 < x) := fun x => propext Rat.intCast_pos
  have m : ((a : Rat) + c) * (g : Rat) = (((a + c) * g : Int) : Rat) := by simp only [Rat.intCast_add, Rat.intCast_mul]
  rw [m]
  simp only [ne_eq, z, l, p]
theorem rtri (x : Rat) : x < 0 ∨ x = 0 ∨ 0 < x := by
  by_cases h : x = 0
  · exact .inr (.inl h)
  · by_cases g : 0 < x
    · exact .inr (.inr g)
    · left; grind
theorem sqq_pos {x : Rat} (h : x ≠ 0) : 0 < x * x := by
  rcases rtri x with q | q | q
  · have := Rat.mul_pos (show 0 < -x by grind) (show 0 < -x by grind)
    grind
  · exact absurd q h
  · exact Rat.mul_pos q q
theorem pos_mul_iff {k x : Rat} (hk : 0 < k) : (0 < k * x ↔ 0 < x) ∧ (k * x < 0 ↔ x < 0) ∧ (k * x = 0 ↔ x = 0) := by
  have pp : ∀ {x : Rat}, 0 < x → 0 < k * x := fun h => Rat.mul_pos hk h
  have nn : ∀ {x : Rat}, x < 0 → k * x < 0 := fun {x} h => by
    have h1 := pp (x := -x) (show 0 < -x by grind)
    clear pp
    grind
  have zz : x = 0 → k * x = 0 := fun h => by rw [h, Rat.mul_zero]
  rcases rtri x with h | h | h
  · have g := nn h
    clear pp nn
    generalize k * x = y at *
    refine ⟨⟨fun q => ?_, fun q => ?_⟩, ⟨fun _ => h, fun _ => g⟩, ⟨fun q => ?_, zz⟩⟩ <;> grind
  · have g := zz h
    clear pp nn
    generalize k * x = y at *
    refine ⟨⟨fun q => ?_, fun q => ?_⟩, ⟨fun q => ?_, fun q => ?_⟩, ⟨fun _ => h, zz⟩⟩ <;> grind
  · have g := pp h
    clear pp nn
    generalize k * x = y at *
    refine ⟨⟨fun _ => h, fun _ => g⟩, ⟨fun q => ?_, fun q => ?_⟩, ⟨fun q => ?_, zz⟩⟩ <;> grind
/-- times a number -/
theorem kindQ_mul {k a b c d e f : Rat} (hk : k ≠ 0) : kindQ (k * a) (k * b) (k * c) (k * d) (k * e) (k * f) = kindQ a b c d e f := by
  have k2 := sqq_pos hk
  have k4 := Rat.mul_pos k2 k2
  have e1 : gN3 (k * a) (k * b) (k * c) (k * d) (k * e) (k * f) = k * k * (k * gN3 a b c d e f) := by unfold gN3; grind
  have e2 : hN2 (k * a) (k * b) (k * c) = k * k * hN2 a b c := by unfold hN2; grind
  have e3 : ∀ a d f, iN2 (k * a) (k * d) (k * f) = k * k * iN2 a d f := by intro a d f; unfold iN2; grind
  have e4 : (k * a + k * c) * (k * k * (k * gN3 a b c d e f)) = k * k * (k * k) * ((a + c) * gN3 a b c d e f) := by grind
  unfold kindQ
  rw [e1, e2, e3, e3, e4]
  have g0 : (k * k * (k * gN3 a b c d e f) = 0) = (gN3 a b c d e f = 0) := propext ⟨fun q => by
    rcases Rat.mul_eq_zero.mp ((pos_mul_iff k2).2.2.mp q) with w | w
    · exact absurd w hk
    · exact w, fun q => by rw [q]; grind⟩
  have z : ∀ x : Rat, (k * k * x = 0) = (x = 0) := fun x => propext (pos_mul_iff k2).2.2
  have l : ∀ x : Rat, (k * k * x < 0) = (x < 0) := fun x => propext (pos_mul_iff k2).2.1
  have p : ∀ x : Rat, (0 < k * k * x) = (0 < x) := fun x => propext (pos_mul_iff k2).1
  have l4 : ∀ x : Rat, (k * k * (k * k) * x < 0) = (x < 0) := fun x => propext (pos_mul_iff k4).2.1
  simp only [ne_eq, g0, z, l, p, l4]
theorem kindQ_shift {p q r s t u e f : Rat} : kindQ p q r (2 * p * e + q * f + s) (q * e + 2 * r * f + t) (p * e * e + q * e * f + r * f * f + s * e + t * f + u) = kindQ p q r s t u := by
  have e1 : gN3 p q r (2 * p * e + q * f + s) (q * e + 2 * r * f + t) (p * e * e + q * e * f + r * f * f + s * e + t * f + u) = gN3 p q r s t u := by unfold gN3; grind
  unfold kindQ
  rw [e1]
  by_cases h1 : gN3 p q r s t u = 0
  · by_cases h2 : hN2 p q r = 0
    · have z1 : (2 * p * t - q * s) * (2 * p * t - q * s) = 0 := by
        have : (2 * p * t - q * s) * (2 * p * t - q * s) = -2 * p * gN3 p q r s t u + (4 * p * u - s * s) * hN2 p q r := by unfold gN3 hN2; grind
        rw [this, h1, h2]; grind
      have z2 : (2 * r * s - q * t) * (2 * r * s - q * t) = 0 := by
        have : (2 * r * s - q * t) * (2 * r * s - q * t) = -2 * r * gN3 p q r s t u + (4 * r * u - t * t) * hN2 p q r := by unfold gN3 hN2; grind
        rw [this, h1, h2]; grind
      have y1 : 2 * p * t - q * s = 0 := by rcases Rat.mul_eq_zero.mp z1 with w | w <;> exact w
      have y2 : 2 * r * s - q * t = 0 := by rcases Rat.mul_eq_zero.mp z2 with w | w <;> exact w
      have e3 : iN2 p (2 * p * e + q * f + s) (p * e * e + q * e * f + r * f * f + s * e + t * f + u) = iN2 p s u := by
        have : iN2 p (2 * p * e + q * f + s) (p * e * e + q * e * f + r * f * f + s * e + t * f + u) = iN2 p s u - hN2 p q r * (f * f) - 2 * f * (2 * p * t - q * s) := by unfold iN2 hN2; grind
        rw [this, h2, y1]; grind
      have e4 : iN2 r (q * e + 2 * r * f + t) (p * e * e + q * e * f + r * f * f + s * e + t * f + u) = iN2 r t u := by
        have : iN2 r (q * e + 2 * r * f + t) (p * e * e + q * e * f + r * f * f + s * e + t * f + u) = iN2 r t u - hN2 p q r * (e * e) - 2 * e * (2 * r * s - q * t) := by unfold iN2 hN2; grind
        rw [this, h2, y2]; grind
      simp only [h1, h2, e3, e4]
    · simp only [h1, if_neg h2, ne_eq, h2, not_false_eq_true, if_true, not_true_eq_false, if_false]
  · simp only [ne_eq, h1, not_false_eq_true, if_true]
theorem sq_nn' (x : Rat) : 0 ≤ x * x := by
  by_cases h : x = 0
  · rw [h, Rat.mul_zero]; exact Rat.le_refl
  · exact Rat.le_of_lt (sqq_pos h)
theorem semi_pos {i m j a b c d : Rat} (hm : m * m = 4 * i * j) (hd : a * d - b * c ≠ 0) (hi : 0 < i) : 0 ≤ a * a * i + a * c * m + c * c * j ∧ 0 ≤ b * b * i + b * d * m + d * d * j ∧ (0 < a * a * i + a * c * m + c * c * j ∨ 0 < b * b * i + b * d * m + d * d * j) ∧ 0 ≤ j := by
  have h4 : 0 < 4 * i := Rat.mul_pos (by decide) hi
  have k1 : 4 * i * (a * a * i + a * c * m + c * c * j) = (2 * i * a + m * c) * (2 * i * a + m * c) := by grind
  have k2 : 4 * i * (b * b * i + b * d * m + d * d * j) = (2 * i * b + m * d) * (2 * i * b + m * d) := by grind
  have k3 : 4 * i * j = m * m := by grind
  have nn : ∀ {x y : Rat}, 4 * i * x = y * y → 0 ≤ x := by
    intro x y h
    apply Rat.not_lt.mp
    intro q
    have := (pos_mul_iff h4).2.1.mpr q
    rw [h] at this
    have := sq_nn' y
    grind
  refine ⟨nn k1, nn k2, ?_, nn k3⟩
  apply Classical.byContradiction
  intro q
  have q1 : ¬ 0 < a * a * i + a * c * m + c * c * j := fun z => q (.inl z)
  have q2 : ¬ 0 < b * b * i + b * d * m + d * d * j := fun z => q (.inr z)
  have zz : ∀ {x y : Rat}, 4 * i * x = y * y → ¬ 0 < x → y = 0 := by
    intro x y h q
    have h0 : x = 0 := by have := nn h; grind
    rw [h0, Rat.mul_zero] at h
    rcases Rat.mul_eq_zero.mp h.symm with w | w <;> exact w
  have w1 := zz k1 q1
  have w2 := zz k2 q2
  have : 2 * i * (a * d - b * c) = 0 := by grind
  rcases Rat.mul_eq_zero.mp this with w | w
  · grind
  · exact hd w
theorem semi {i m j a b c d : Rat} (hm : m * m = 4 * i * j) (hd : a * d - b * c ≠ 0) : ((0 < a * a * i + a * c * m + c * c * j ∨ 0 < b * b * i + b * d * m + d * d * j) ↔ (0 < i ∨ 0 < j)) ∧ ((a * a * i + a * c * m + c * c * j = 0 ∧ b * b * i + b * d * m + d * d * j = 0) ↔ (i = 0 ∧ j = 0)) := by
  rcases rtri i with h | h | h
  · obtain ⟨h1, h2, h3, h4⟩ := semi_pos (i := -i) (m := -m) (j := -j) (a := a) (b := b) (c := c) (d := d) (by grind) hd (by grind)
    have e1 : a * a * -i + a * c * -m + c * c * -j = -(a * a * i + a * c * m + c * c * j) := by grind
    have e2 : b * b * -i + b * d * -m + d * d * -j = -(b * b * i + b * d * m + d * d * j) := by grind
    rw [e1] at h1 h3
    rw [e2] at h2 h3
    generalize a * a * i + a * c * m + c * c * j = X at *
    generalize b * b * i + b * d * m + d * d * j = Y at *
    clear hm hd e1 e2
    constructor <;> constructor <;> intro q <;> grind
  · subst h
    have hm0 : m = 0 := by
      have : m * m = 0 := by rw [hm]; grind
      rcases Rat.mul_eq_zero.mp this with w | w <;> exact w
    subst hm0
    have e1 : a * a * 0 + a * c * 0 + c * c * j = c * c * j := by grind
    have e2 : b * b * 0 + b * d * 0 + d * d * j = d * d * j := by grind
    rw [e1, e2]
    by_cases hc : c = 0
    · have hdd : d ≠ 0 := fun z => hd (by rw [hc, z]; grind)
      obtain ⟨p1, p2, p3⟩ := pos_mul_iff (x := j) (sqq_pos hdd)
      rw [p1, p3, hc]
      simp [Rat.zero_mul, Rat.lt_irrefl]
    · obtain ⟨p1, p2, p3⟩ := pos_mul_iff (x := j) (sqq_pos hc)
      rw [p1, p3]
      by_cases hdd : d = 0
      · rw [hdd]
        simp [Rat.zero_mul, Rat.lt_irrefl]
      · obtain ⟨p4, p5, p6⟩ := pos_mul_iff (x := j) (sqq_pos hdd)
        rw [p4, p6]
        simp [Rat.lt_irrefl]
  · obtain ⟨h1, h2, h3, h4⟩ := semi_pos (a := a) (b := b) (c := c) (d := d) hm hd h
    generalize a * a * i + a * c * m + c * c * j = X at *
    generalize b * b * i + b * d * m + d * d * j = Y at *
    clear hm hd
    constructor <;> constructor <;> intro q <;> grind
theorem kindQ_lin {p q r s t u a b c d : Rat} (hd : a * d - b * c ≠ 0) : kindQ (p * a * a + q * a * c + r * c * c) (2 * p * a * b + q * (a * d + b * c) + 2 * r * c * d) (p * b * b + q * b * d + r * d * d) (s * a + t * c) (s * b + t * d) u = kindQ p q r s t u := by
  have d2 := sqq_pos hd
  have e1 : gN3 (p * a * a + q * a * c + r * c * c) (2 * p * a * b + q * (a * d + b * c) + 2 * r * c * d) (p * b * b + q * b * d + r * d * d) (s * a + t * c) (s * b + t * d) u = (a * d - b * c) * (a * d - b * c) * gN3 p q r s t u := by unfold gN3; grind
  have e2 : hN2 (p * a * a + q * a * c + r * c * c) (2 * p * a * b + q * (a * d + b * c) + 2 * r * c * d) (p * b * b + q * b * d + r * d * d) = (a * d - b * c) * (a * d - b * c) * hN2 p q r := by unfold hN2; grind
  have z : ∀ x : Rat, ((a * d - b * c) * (a * d - b * c) * x = 0) = (x = 0) := fun x => propext (pos_mul_iff d2).2.2
  have l : ∀ x : Rat, ((a * d - b * c) * (a * d - b * c) * x < 0) = (x < 0) := fun x => propext (pos_mul_iff d2).2.1
  have o : ∀ x : Rat, (0 < (a * d - b * c) * (a * d - b * c) * x) = (0 < x) := fun x => propext (pos_mul_iff d2).1
  unfold kindQ
  rw [e1, e2]
  simp only [ne_eq, z, l, o]
  by_cases h1 : gN3 p q r s t u = 0
  · by_cases h2 : hN2 p q r = 0
    · have i1 : iN2 (p * a * a + q * a * c + r * c * c) (s * a + t * c) u = a * a * iN2 p s u + a * c * (2 * s * t - 4 * q * u) + c * c * iN2 r t u := by unfold iN2; grind
      have i2 : iN2 (p * b * b + q * b * d + r * d * d) (s * b + t * d) u = b * b * iN2 p s u + b * d * (2 * s * t - 4 * q * u) + d * d * iN2 r t u := by unfold iN2; grind
      have hm : (2 * s * t - 4 * q * u) * (2 * s * t - 4 * q * u) = 4 * iN2 p s u * iN2 r t u := by
        have : (2 * s * t - 4 * q * u) * (2 * s * t - 4 * q * u) = 4 * iN2 p s u * iN2 r t u - 8 * u * gN3 p q r s t u := by unfold iN2 gN3; grind
        rw [this, h1]; grind
      obtain ⟨s1, s2⟩ := semi hm hd
      rw [i1, i2]
      simp only [h1, h2, s1, s2, not_true_eq_false, if_false]
    · simp only [h1, if_neg h2, h2, not_false_eq_true, if_true, not_true_eq_false, if_false]
  · simp only [h1, not_false_eq_true, if_true]
    by_cases h2 : hN2 p q r = 0
    · simp only [h2, if_true]
    · by_cases h3 : hN2 p q r < 0
      · simp only [h3, if_true]
      · have h3' : 0 < hN2 p q r := by have := rtri (hN2 p q r); grind
        have pos : ∀ x y : Rat, x ≠ 0 ∨ y ≠ 0 → 0 < 4 * p * (p * x * x + q * x * y + r * y * y) := by
          intro x y hxy
          have k : 4 * p * (p * x * x + q * x * y + r * y * y) = (2 * p * x + q * y) * (2 * p * x + q * y) + hN2 p q r * (y * y) := by unfold hN2; grind
          rw [k]
          by_cases hy : y = 0
          · have hx : x ≠ 0 := hxy.resolve_right fun w => w hy
            have hp : p ≠ 0 := by
              intro w
              unfold hN2 at h3'
              rw [w] at h3'
              have := sq_nn' q
              grind
            have := sqq_pos (x := 2 * p * x) (rmul_ne (rmul_ne (by decide) hp) hx)
            rw [hy]
            grind
          · have w1 := Rat.mul_pos h3' (sqq_pos hy)
            have w2 := sq_nn' (2 * p * x + q * y)
            grind
        have n1 : a ≠ 0 ∨ c ≠ 0 := by
          apply Classical.byContradiction
          intro w
          apply hd
          have w1 : a = 0 := Classical.byContradiction fun v => w (.inl v)
          have w2 : c = 0 := Classical.byContradiction fun v => w (.inr v)
          rw [w1, w2]; grind
        have n2 : b ≠ 0 ∨ d ≠ 0 := by
          apply Classical.byContradiction
          intro w
          apply hd
          have w1 : b = 0 := Classical.byContradiction fun v => w (.inl v)
          have w2 : d = 0 := Classical.byContradiction fun v => w (.inr v)
          rw [w1, w2]; grind
        have p1 := pos a c n1
        have p2 := pos b d n2
        have p3 := pos 1 0 (.inl (by decide))
        have p4 := pos 0 1 (.inr (by decide))
        have hk : 0 < 4 * p * ((p * a * a + q * a * c + r * c * c) + (p * b * b + q * b * d + r * d * d)) := by grind
        have hk2 : 0 < 4 * p * (p + r) := by grind
        have hp : p ≠ 0 := by
          intro w
          rw [w] at hk2
          grind
        have hpp := sqq_pos (x := 4 * p) (rmul_ne (by decide) hp)
        -- both sums have the sign of p
        have key : ∀ x y g : Rat, 0 < 4 * p * x → 0 < 4 * p * y → (x * g < 0 ↔ y * g < 0) := by
          intro x y g hx hy
          have f1 : 4 * p * x * (y * g) = 4 * p * y * (x * g) := by grind
          have a1 := (pos_mul_iff (x := y * g) hx).2.1
          have a2 := (pos_mul_iff (x := x * g) hy).2.1
          rw [f1] at a1
          exact a2.symm.trans a1
        have fin := key _ _ ((a * d - b * c) * (a * d - b * c) * gN3 p q r s t u) hk hk2
        have fin2 : ((p * a * a + q * a * c + r * c * c) + (p * b * b + q * b * d + r * d * d)) * ((a * d - b * c) * (a * d - b * c) * gN3 p q r s t u) < 0 ↔ (p + r) * gN3 p q r s t u < 0 := by
          rw [fin, show (p + r) * ((a * d - b * c) * (a * d - b * c) * gN3 p q r s t u) = (a * d - b * c) * (a * d - b * c) * ((p + r) * gN3 p q r s t u) by grind]
          exact (pos_mul_iff d2).2.1
        simp only [fin2]
/-- the kind stays when the plane is led -/
theorem kindQ_led {p q r s t u a b c d e f : Rat} (hd : a * d - b * c ≠ 0) : kindQ (p * a * a + q * a * c + r * c * c) (2 * p * a * b + q * (a * d + b * c) + 2 * r * c * d) (p * b * b + q * b * d + r * d * d)
    (2 * p * a * e + q * (a * f + c * e) + 2 * r * c * f + s * a + t * c) (2 * p * b * e + q * (b * f + d * e) + 2 * r * d * f + s * b + t * d) (p * e * e + q * e * f + r * f * f + s * e + t * f + u) = kindQ p q r s t u := by
  rw [← kindQ_shift (p := p) (q := q) (r := r) (s := s) (t := t) (u := u) (e := e) (f := f), ← kindQ_lin (p := p) (q := q) (r := r) (s := 2 * p * e + q * f + s) (t := q * e + 2 * r * f + t) hd]
  congr 1 <;> grind
abbrev qN (a b c d e f x y : Rat) : Rat := a * (x * x) + b * (x * y) + c * (y * y) + d * x + e * y + f
theorem q_sq (a b c d e f x y : Rat) : 4 * a * hN2 a b c * qN a b c d e f x y = hN2 a b c * ((2 * a * x + b * y + d) * (2 * a * x + b * y + d)) + (hN2 a b c * y + 2 * a * e - b * d) * (hN2 a b c * y + 2 * a * e - b * d) + 2 * a * gN3 a b c d e f := by
  unfold qN hN2 gN3; grind
theorem ofs_ne {x y : String} (h : x ≠ y) (e : Str.ofString x = Str.ofString y) : False := h (by rwa [ofS_inj] at e)
/-- what the kinds say of the numbers -/
theorem kind_great {a b c d e f : Rat} : (gN3 a b c d e f ≠ 0) ↔ ((kindQ a b c d e f = "ellipse" ∨ kindQ a b c d e f = "parabola" ∨ kindQ a b c d e f = "hyperbola") ∨ kindQ a b c d e f = "no places" ∧ hN2 a b c ≠ 0) := by
  unfold kindQ
  by_cases h1 : gN3 a b c d e f = 0
  · simp only [h1, ne_eq, not_true_eq_false, if_false, false_iff]
    by_cases h2 : hN2 a b c = 0
    · simp only [h2, not_true_eq_false, if_false, and_false, or_false]
      rintro (w | w | w) <;> (split at w; · exact ofs_ne (by decide) w) <;> (split at w <;> exact ofs_ne (by decide) w)
    · simp only [h2, not_false_eq_true, if_true, and_true]
      rintro ((w | w | w) | w) <;> split at w <;> exact ofs_ne (by decide) w
  · simp only [h1, ne_eq, not_false_eq_true, if_true, true_iff]
    by_cases h2 : hN2 a b c = 0
    · simp only [h2, if_true]
      exact .inl (.inr (.inl trivial))
    · simp only [h2, if_false, not_false_eq_true, and_true]
      split
      · exact .inl (.inr (.inr rfl))
      · split
        · exact .inl (.inl rfl)
        · exact .inr rfl
theorem form_ne {a b c : Rat} (h : 0 < hN2 a b c) : a ≠ 0 ∧ 0 < a * (a + c) := by
  have ha : a ≠ 0 := by
    rintro rfl
    unfold hN2 at h
    have := sq_nn' b
    grind
  refine ⟨ha, ?_⟩
  have k : 4 * (a * (a + c)) = 4 * (a * a) + hN2 a b c + b * b := by unfold hN2; grind
  have := sqq_pos ha
  have := sq_nn' b
  grind
theorem none_on {a b c d e f : Rat} (h : kindQ a b c d e f = "no places") (h0 : ¬ (a = 0 ∧ b = 0 ∧ c = 0)) (x y : Rat) : qN a b c d e f x y ≠ 0 := by
  intro hq
  unfold kindQ at h
  split at h
  · rename_i g0
    split at h
    · exact ofs_ne (by decide) h
    · rename_i h1
      split at h
      · exact ofs_ne (by decide) h
      · rename_i h2
        split at h
        · exact ofs_ne (by decide) h
        · rename_i h3
          have hp : 0 < hN2 a b c := by have := rtri (hN2 a b c); grind
          obtain ⟨ha, hac⟩ := form_ne hp
          have hag : 0 < a * gN3 a b c d e f := by
            have k : a * (a + c) * (a * gN3 a b c d e f) = a * a * ((a + c) * gN3 a b c d e f) := by grind
            have n0 : (a + c) * gN3 a b c d e f ≠ 0 := rmul_ne (by
              intro w
              rw [w, Rat.mul_zero] at hac
              exact absurd hac (Rat.lt_irrefl)) g0
            have hpp : 0 < (a + c) * gN3 a b c d e f := by have := rtri ((a + c) * gN3 a b c d e f); grind
            have := Rat.mul_pos (sqq_pos ha) hpp
            rw [← k] at this
            exact (pos_mul_iff hac).1.mp this
          have k := q_sq a b c d e f x y
          rw [hq, Rat.mul_zero] at k
          have w1 := sq_nn' (hN2 a b c * y + 2 * a * e - b * d)
          have w2 := Rat.mul_nonneg (Rat.le_of_lt hp) (sq_nn' (2 * a * x + b * y + d))
          grind
  · rename_i g0
    have g0 : gN3 a b c d e f = 0 := Classical.byContradiction g0
    split at h
    · split at h <;> exact ofs_ne (by decide) h
    · rename_i h1
      have h1 : hN2 a b c = 0 := Classical.byContradiction h1
      split at h
      · exact ofs_ne (by decide) h
      · rename_i h2
        split at h
        · exact ofs_ne (by decide) h
        · rename_i h3
          have zz : ∀ {z : Rat}, z * z = 0 → z = 0 := fun h => by rcases Rat.mul_eq_zero.mp h with w | w <;> exact w
          have y1 : 2 * a * e - b * d = 0 := zz (by
            have : (2 * a * e - b * d) * (2 * a * e - b * d) = -2 * a * gN3 a b c d e f + (4 * a * f - d * d) * hN2 a b c := by unfold gN3 hN2; grind
            rw [this, g0, h1]; grind)
          have y2 : 2 * c * d - b * e = 0 := zz (by
            have : (2 * c * d - b * e) * (2 * c * d - b * e) = -2 * c * gN3 a b c d e f + (4 * c * f - e * e) * hN2 a b c := by unfold gN3 hN2; grind
            rw [this, g0, h1]; grind)
          have k1 : (2 * a * x + b * y + d) * (2 * a * x + b * y + d) = iN2 a d f + 4 * a * qN a b c d e f x y - 2 * y * (2 * a * e - b * d) - hN2 a b c * (y * y) := by unfold iN2 qN hN2; grind
          have k2 : (2 * c * y + b * x + e) * (2 * c * y + b * x + e) = iN2 c e f + 4 * c * qN a b c d e f x y - 2 * x * (2 * c * d - b * e) - hN2 a b c * (x * x) := by unfold iN2 qN hN2; grind
          rw [hq, y1, h1] at k1
          rw [hq, y2, h1] at k2
          have n1 := sq_nn' (2 * a * x + b * y + d)
          have n2 := sq_nn' (2 * c * y + b * x + e)
          have t1 := rtri (iN2 a d f)
          have t2 := rtri (iN2 c e f)
          grind
theorem one_on {a b c d e f : Rat} (h : kindQ a b c d e f = "one place") {x y x' y' : Rat} (hq : qN a b c d e f x y = 0) (hq' : qN a b c d e f x' y' = 0) : x = x' ∧ y = y' := by
  have hp : gN3 a b c d e f = 0 ∧ 0 < hN2 a b c := by
    unfold kindQ at h
    split at h
    · split at h
      · exact (ofs_ne (by decide) h).elim
      · split at h
        · exact (ofs_ne (by decide) h).elim
        · split at h <;> exact (ofs_ne (by decide) h).elim
    · rename_i g0
      refine ⟨Classical.byContradiction g0, ?_⟩
      split at h
      · split at h
        · assumption
        · exact (ofs_ne (by decide) h).elim
      · split at h
        · exact (ofs_ne (by decide) h).elim
        · split at h <;> exact (ofs_ne (by decide) h).elim
  obtain ⟨g0, hp⟩ := hp
  obtain ⟨ha, _⟩ := form_ne hp
  have key : ∀ {x y : Rat}, qN a b c d e f x y = 0 → 2 * a * x + b * y + d = 0 ∧ hN2 a b c * y + 2 * a * e - b * d = 0 := by
    intro x y hq
    have k := q_sq a b c d e f x y
    rw [hq, g0] at k
    have w1 := sq_nn' (hN2 a b c * y + 2 * a * e - b * d)
    have w2 := Rat.mul_nonneg (Rat.le_of_lt hp) (sq_nn' (2 * a * x + b * y + d))
    have z1 : (hN2 a b c * y + 2 * a * e - b * d) * (hN2 a b c * y + 2 * a * e - b * d) = 0 := by grind
    have z2 : hN2 a b c * ((2 * a * x + b * y + d) * (2 * a * x + b * y + d)) = 0 := by grind
    have hh : hN2 a b c ≠ 0 := fun w => by rw [w] at hp; exact absurd hp Rat.lt_irrefl
    refine ⟨?_, ?_⟩
    · rcases Rat.mul_eq_zero.mp z2 with w | w
      · exact absurd w hh
      · rcases Rat.mul_eq_zero.mp w with v | v <;> exact v
    · rcases Rat.mul_eq_zero.mp z1 with v | v <;> exact v
  obtain ⟨a1, a2⟩ := key hq
  obtain ⟨b1, b2⟩ := key hq'
  have hh : hN2 a b c ≠ 0 := fun w => by rw [w] at hp; exact absurd hp Rat.lt_irrefl
  have ey : y = y' := by
    have : hN2 a b c * (y - y') = 0 := by grind
    rcases Rat.mul_eq_zero.mp this with w | w
    · exact absurd w hh
    · grind
  refine ⟨?_, ey⟩
  subst ey
  have : 2 * a * (x - x') = 0 := by grind
  rcases Rat.mul_eq_zero.mp this with w | w
  · rcases Rat.mul_eq_zero.mp w with v | v
    · exact absurd v (by decide)
    · exact absurd v ha
  · grind
/-- how many pairs there are, one row after the other -/
theorem cnt_one {α β : Type} {P : α → β → Bool} (hP : ∀ x x' y y', P x y = true → P x' y' = true → x = x' ∧ y = y') : ∀ {xs : List α} {ys : List β}, xs.Nodup → ys.Nodup → (xs.map fun x => (ys.filter (P x)).length).sum ≤ 1 := by
  have one : ∀ {x : α} {ys : List β}, ys.Nodup → (ys.filter (P x)).length ≤ 1 := by
    intro x ys hn
    have hn' := hn.filter (P x)
    match e : ys.filter (P x), hn' with
    | [], _ => simp
    | [a], _ => simp
    | a :: b :: r, hn' =>
      exfalso
      have ha : a ∈ ys.filter (P x) := by rw [e]; simp
      have hb : b ∈ ys.filter (P x) := by rw [e]; simp
      have := (hP x x a b (List.mem_filter.mp ha).2 (List.mem_filter.mp hb).2).2
      simp [this] at hn'
  intro xs ys h1 h2
  induction xs with
  | nil => simp
  | cons x r ih =>
    rw [List.map_cons, List.sum_cons]
    rw [List.nodup_cons] at h1
    have i1 := ih h1.2
    have i2 := one (x := x) h2
    by_cases h : (ys.filter (P x)).length = 0
    · omega
    · have : (r.map fun x => (ys.filter (P x)).length).sum = 0 := by
        have all : ∀ x' ∈ r, (ys.filter (P x')).length = 0 := by
          intro x' hx'
          rw [List.length_eq_zero_iff, List.filter_eq_nil_iff]
          intro y' hy' hp
          obtain ⟨y, hy⟩ : ∃ y, y ∈ ys.filter (P x) := by
            cases e : ys.filter (P x) with
            | nil => rw [e] at h; exact absurd rfl h
            | cons y r => exact ⟨y, by simp⟩
          have := (hP x x' y y' (List.mem_filter.mp hy).2 hp).1
          exact h1.1 (this ▸ hx')
        clear ih i1 i2 h h1
        induction r with
        | nil => rfl
        | cons x' r ih =>
          rw [List.map_cons, List.sum_cons, all x' (by simp), ih fun q hq => all q (by simp [hq])]
      omega
theorem cnt_none {α β : Type} {P : α → β → Bool} (hP : ∀ x y, P x y = false) {xs : List α} {ys : List β} : (xs.map fun x => (ys.filter (P x)).length).sum = 0 := by
  have e : ∀ x, ys.filter (P x) = [] := fun x => List.filter_eq_nil_iff.mpr fun y _ => by rw [hP]; simp
  induction xs with
  | nil => rfl
  | cons x r ih => rw [List.map_cons, List.sum_cons, e, ih]; rfl
end MP

/-! PJ: tables of nine fractions, rows of three; maps of the projective plane. -/
namespace MP
open PySem PySem.Spec PyProof.Rows L2
@[ext] structure V3 where
  x : Rat
  y : Rat
  z : Rat
@[ext] structure M3 where
  a : Rat
  b : Rat
  c : Rat
  d : Rat
  e : Rat
  f : Rat
  g : Rat
  h : Rat
  i : Rat
def V3.s (k : Rat) (v : V3) : V3 := ⟨k * v.x, k * v.y, k * v.z⟩
def V3.add (v w : V3) : V3 := ⟨v.x + w.x, v.y + w.y, v.z + w.z⟩
def M3.s (k : Rat) (m : M3) : M3 := ⟨k * m.a, k * m.b, k * m.c, k * m.d, k * m.e, k * m.f, k * m.g, k * m.h, k * m.i⟩
def M3.ap (m : M3) (v : V3) : V3 := ⟨m.a * v.x + m.b * v.y + m.c * v.z, m.d * v.x + m.e * v.y + m.f * v.z, m.g * v.x + m.h * v.y + m.i * v.z⟩
def M3.mul (m n : M3) : M3 := ⟨m.a * n.a + m.b * n.d + m.c * n.g, m.a * n.b + m.b * n.e + m.c * n.h, m.a * n.c + m.b * n.f + m.c * n.i, m.d * n.a + m.e * n.d + m.f * n.g, m.d * n.b + m.e * n.e + m.f * n.h, m.d * n.c + m.e * n.f + m.f * n.i, m.g * n.a + m.h * n.d + m.i * n.g, m.g * n.b + m.h * n.e + m.i * n.h, m.g * n.c + m.h * n.f + m.i * n.i⟩
def M3.adj (m : M3) : M3 := ⟨m.e * m.i - m.f * m.h, m.h * m.c - m.i * m.b, m.b * m.f - m.c * m.e, m.f * m.g - m.d * m.i, m.i * m.a - m.g * m.c, m.c * m.d - m.a * m.f, m.d * m.h - m.e * m.g, m.g * m.b - m.h * m.a, m.a * m.e - m.b * m.d⟩
def M3.det (m : M3) : Rat := m.a * (m.e * m.i - m.f * m.h) + m.b * (m.f * m.g - m.d * m.i) + m.c * (m.d * m.h - m.e * m.g)
def M3.one : M3 := ⟨1, 0, 0, 0, 1, 0, 0, 0, 1⟩
def dR (p q r : V3) : Rat := p.x * (q.y * r.z - q.z * r.y) + p.y * (q.z * r.x - q.x * r.z) + p.z * (q.x * r.y - q.y * r.x)
theorem ap_mul (m n : M3) (v : V3) : (m.mul n).ap v = m.ap (n.ap v) := by
  ext <;> simp only [M3.mul, M3.ap] <;> grind
theorem ap_s (k : Rat) (m : M3) (v : V3) : (m.s k).ap v = (m.ap v).s k := by
  ext <;> simp only [M3.s, M3.ap, V3.s] <;> grind
theorem ap_vs (k : Rat) (m : M3) (v : V3) : m.ap (v.s k) = (m.ap v).s k := by
  ext <;> simp only [M3.ap, V3.s] <;> grind
theorem ap_add (m : M3) (v w : V3) : m.ap (v.add w) = (m.ap v).add (m.ap w) := by
  ext <;> simp only [M3.ap, V3.add] <;> grind
theorem s_s (k l : Rat) (v : V3) : (v.s k).s l = v.s (l * k) := by
  ext <;> simp only [V3.s] <;> grind
theorem ms_s (k l : Rat) (m : M3) : (m.s k).s l = m.s (l * k) := by
  ext <;> simp only [M3.s] <;> grind
theorem s_1 (v : V3) : v.s 1 = v := by
  ext <;> simp only [V3.s] <;> grind
theorem ms_1 (m : M3) : m.s 1 = m := by
  ext <;> simp only [M3.s] <;> grind
theorem adj_ap (m : M3) (v : V3) : m.adj.ap (m.ap v) = v.s m.det := by
  ext <;> simp only [M3.adj, M3.ap, V3.s, M3.det] <;> grind
theorem mul_s (k l : Rat) (m n : M3) : (m.s k).mul (n.s l) = (m.mul n).s (k * l) := by
  ext <;> simp only [M3.mul, M3.s] <;> grind
theorem adj_s (k : Rat) (m : M3) : (m.s k).adj = m.adj.s (k * k) := by
  ext <;> simp only [M3.adj, M3.s] <;> grind
theorem mul_adj (m : M3) : m.mul m.adj = M3.one.s m.det := by
  ext <;> simp only [M3.mul, M3.adj, M3.s, M3.one, M3.det] <;> grind
theorem adj_mul' (m : M3) : m.adj.mul m = M3.one.s m.det := by
  ext <;> simp only [M3.mul, M3.adj, M3.s, M3.one, M3.det] <;> grind
theorem mul_assoc3 (m n o : M3) : (m.mul n).mul o = m.mul (n.mul o) := by
  ext <;> simp only [M3.mul] <;> grind
theorem mul_one3 (m : M3) : m.mul M3.one = m := by
  ext <;> simp only [M3.mul, M3.one] <;> grind
theorem one_mul3 (m : M3) : M3.one.mul m = m := by
  ext <;> simp only [M3.mul, M3.one] <;> grind
theorem adj_mul (m n : M3) : (m.mul n).adj = n.adj.mul m.adj := by
  ext <;> simp only [M3.mul, M3.adj] <;> grind
theorem adj_adj (m : M3) : m.adj.adj = m.s m.det := by
  ext <;> simp only [M3.adj, M3.s, M3.det] <;> grind
theorem det_mul (m n : M3) : (m.mul n).det = m.det * n.det := by
  simp only [M3.mul, M3.det]; grind
theorem det_adj (m : M3) : m.adj.det = m.det * m.det := by
  simp only [M3.adj, M3.det]; grind
theorem det_s (k : Rat) (m : M3) : (m.s k).det = k * k * k * m.det := by
  simp only [M3.s, M3.det]; grind
/-- the map of the frame to four places -/
def frM (p q r s : V3) : M3 := ⟨dR s q r * p.x, dR p s r * q.x, dR p q s * r.x, dR s q r * p.y, dR p s r * q.y, dR p q s * r.y, dR s q r * p.z, dR p s r * q.z, dR p q s * r.z⟩
theorem fr_1 (p q r s : V3) : (frM p q r s).ap ⟨1, 0, 0⟩ = p.s (dR s q r) := by
  ext <;> simp only [frM, M3.ap, V3.s] <;> grind
theorem fr_2 (p q r s : V3) : (frM p q r s).ap ⟨0, 1, 0⟩ = q.s (dR p s r) := by
  ext <;> simp only [frM, M3.ap, V3.s] <;> grind
theorem fr_3 (p q r s : V3) : (frM p q r s).ap ⟨0, 0, 1⟩ = r.s (dR p q s) := by
  ext <;> simp only [frM, M3.ap, V3.s] <;> grind
theorem fr_4 (p q r s : V3) : (frM p q r s).ap ⟨1, 1, 1⟩ = s.s (dR p q r) := by
  ext <;> simp only [frM, M3.ap, V3.s, dR] <;> grind
theorem col_det (u v w : Rat) (p q r : V3) : (M3.mk (u * p.x) (v * q.x) (w * r.x) (u * p.y) (v * q.y) (w * r.y) (u * p.z) (v * q.z) (w * r.z)).det = u * v * w * dR p q r := by
  simp only [M3.det, dR]; grind
theorem fr_det (p q r s : V3) : (frM p q r s).det = dR s q r * dR p s r * dR p q s * dR p q r := col_det (dR s q r) (dR p s r) (dR p q s) p q r
/-- no three of four in one line -/
structure Gen (p q r s : V3) : Prop where
  u : dR s q r ≠ 0
  v : dR p s r ≠ 0
  w : dR p q s ≠ 0
  t : dR p q r ≠ 0
theorem Gen.det {p q r s : V3} (h : Gen p q r s) : (frM p q r s).det ≠ 0 := by
  rw [fr_det]
  exact rmul_ne (rmul_ne (rmul_ne h.u h.v) h.w) h.t
theorem inv_ne {k : Rat} (hk : k ≠ 0) : k⁻¹ ≠ 0 := fun z => hk (by rw [← Rat.inv_inv k, z]; exact Rat.inv_zero)
/-- where the four go -/
theorem four_led {p q r s p' q' r' s' : V3} (h : Gen p q r s) (h' : Gen p' q' r' s') : (∃ k, k ≠ 0 ∧ ((frM p' q' r' s').mul (frM p q r s).adj).ap p = p'.s k) ∧ (∃ k, k ≠ 0 ∧ ((frM p' q' r' s').mul (frM p q r s).adj).ap q = q'.s k) ∧
    (∃ k, k ≠ 0 ∧ ((frM p' q' r' s').mul (frM p q r s).adj).ap r = r'.s k) ∧ (∃ k, k ≠ 0 ∧ ((frM p' q' r' s').mul (frM p q r s).adj).ap s = s'.s k) := by
  have key : ∀ {e v v' : V3} {k k' : Rat}, k ≠ 0 → k' ≠ 0 → (frM p q r s).ap e = v.s k → (frM p' q' r' s').ap e = v'.s k' → ∃ l, l ≠ 0 ∧ ((frM p' q' r' s').mul (frM p q r s).adj).ap v = v'.s l := by
    intro e v v' k k' hk hk' e1 e2
    have a1 := adj_ap (frM p q r s) e
    rw [e1, ap_vs] at a1
    have a2 : (frM p q r s).adj.ap v = e.s (k⁻¹ * (frM p q r s).det) := by
      have := congrArg (V3.s k⁻¹) a1
      rw [s_s, s_s, Rat.inv_mul_cancel _ hk, s_1] at this
      exact this
    refine ⟨k⁻¹ * (frM p q r s).det * k', rmul_ne (rmul_ne (inv_ne hk) h.det) hk', ?_⟩
    rw [ap_mul, a2, ap_vs, e2, s_s]
  exact ⟨key h.u h'.u (fr_1 ..) (fr_1 ..), key h.v h'.v (fr_2 ..) (fr_2 ..), key h.w h'.w (fr_3 ..) (fr_3 ..), key h.t h'.t (fr_4 ..) (fr_4 ..)⟩
/-! ### ints -/
def cV (x y z : Int) : V3 := ⟨x, y, z⟩
def cM (a b c d e f g h i : Int) : M3 := ⟨a, b, c, d, e, f, g, h, i⟩
/-- nine ints that are a table, up to a number -/
def Pj (a b c d e f g h i : Int) (m : M3) : Prop := Bare [a, b, c, d, e, f, g, h, i] ∧ ∃ k : Rat, k ≠ 0 ∧ cM a b c d e f g h i = m.s k
theorem told9 {a b c d e f g h i : Int} {n : Nat} (hs : ∀ k ∈ [a, b, c, d, e, f, g, h, i], SzI k n) (h0 : ∃ k ∈ [a, b, c, d, e, f, g, h, i], k ≠ 0) :
    ∃ p q r s t u x y z : Int, toldI [a, b, c, d, e, f, g, h, i] = [p, q, r, s, t, u, x, y, z] ∧ Pj p q r s t u x y z (cM a b c d e f g h i) ∧ ∀ k ∈ [p, q, r, s, t, u, x, y, z], SzI k n := by
  have hw := toldI_whole [a, b, c, d, e, f, g, h, i]
  obtain ⟨k, hk, hr⟩ := whole_rat (nz_rat h0)
  have hz := whole_int_sz (zs := [a, b, c, d, e, f, g, h, i]) (n := n) hs
  have hb := bare_told h0
  rw [← hw] at hr hz
  have hlen : (toldI [a, b, c, d, e, f, g, h, i]).length = 9 := by unfold toldI; simp
  generalize toldI [a, b, c, d, e, f, g, h, i] = L at *
  match L, hlen with
  | [p, q, r, s, t, u, x, y, z], _ =>
    simp only [List.map_cons, List.map_nil, List.cons.injEq, and_true] at hr
    obtain ⟨r1, r2, r3, r4, r5, r6, r7, r8, r9⟩ := hr
    refine ⟨p, q, r, s, t, u, x, y, z, rfl, ⟨hb, k, hk, ?_⟩, hz⟩
    unfold cM M3.s
    dsimp only
    rw [r1, r2, r3, r4, r5, r6, r7, r8, r9]
theorem Pj.of {a b c d e f g h i : Int} {m m' : M3} {k : Rat} (hp : Pj a b c d e f g h i m) (hk : k ≠ 0) (hm : m = m'.s k) : Pj a b c d e f g h i m' := by
  obtain ⟨hb, l, hl, h⟩ := hp
  exact ⟨hb, l * k, rmul_ne hl hk, by rw [h, hm, ms_s]⟩
theorem Pj.uniq {a b c d e f g h i a' b' c' d' e' f' g' h' i' : Int} {m : M3} (hp : Pj a b c d e f g h i m) (hp' : Pj a' b' c' d' e' f' g' h' i' m) : [a, b, c, d, e, f, g, h, i] = [a', b', c', d', e', f', g', h', i'] := by
  obtain ⟨hb, k, hk, e1⟩ := hp
  obtain ⟨hb', k', hk', e2⟩ := hp'
  have e3 : cM a b c d e f g h i = (cM a' b' c' d' e' f' g' h' i').s (k * k'⁻¹) := by
    rw [e1, e2, ms_s]
    congr 1
    rw [Rat.mul_assoc, Rat.inv_mul_cancel _ hk', Rat.mul_one]
  refine bare_uniq (k := k * k'⁻¹) hb hb' (rmul_ne hk (inv_ne hk')) ?_
  simp only [cM, M3.s, M3.mk.injEq] at e3
  obtain ⟨r1, r2, r3, r4, r5, r6, r7, r8, r9⟩ := e3
  simp only [List.map_cons, List.map_nil, r1, r2, r3, r4, r5, r6, r7, r8, r9]
theorem Pj.det {a b c d e f g h i : Int} {m : M3} (hp : Pj a b c d e f g h i m) (hm : m.det ≠ 0) : (cM a b c d e f g h i).det ≠ 0 := by
  obtain ⟨_, k, hk, e1⟩ := hp
  rw [e1, det_s]
  exact rmul_ne (rmul_ne (rmul_ne hk hk) hk) hm
theorem nz9 {a b c d e f g h i : Int} (hd : (cM a b c d e f g h i).det ≠ 0) : ∃ k ∈ [a, b, c, d, e, f, g, h, i], k ≠ 0 := by
  apply Classical.byContradiction
  intro w
  have z : ∀ k ∈ [a, b, c, d, e, f, g, h, i], k = 0 := fun k hk => Classical.byContradiction fun v => w ⟨k, hk, v⟩
  apply hd
  rw [z a (by simp), z b (by simp), z c (by simp), z d (by simp), z e (by simp), z f (by simp), z g (by simp), z h (by simp), z i (by simp)]
  simp only [cM, M3.det]
  rw [show ((0 : Int) : Rat) = 0 from rfl]
  grind
theorem cM_adj {a b c d e f g h i : Int} : (cM a b c d e f g h i).adj = cM (e * i - f * h) (h * c - i * b) (b * f - c * e) (f * g - d * i) (i * a - g * c) (c * d - a * f) (d * h - e * g) (g * b - h * a) (a * e - b * d) := by
  ext <;> simp only [M3.adj, cM, Rat.intCast_sub, Rat.intCast_mul]
theorem cM_mul {a b c d e f g h i a' b' c' d' e' f' g' h' i' : Int} : (cM a b c d e f g h i).mul (cM a' b' c' d' e' f' g' h' i') = cM (a * a' + b * d' + c * g') (a * b' + b * e' + c * h') (a * c' + b * f' + c * i') (d * a' + e * d' + f * g') (d * b' + e * e' + f * h') (d * c' + e * f' + f * i') (g * a' + h * d' + i * g') (g * b' + h * e' + i * h') (g * c' + h * f' + i * i') := by
  ext <;> simp only [M3.mul, cM, Rat.intCast_add, Rat.intCast_mul]
theorem cM_ap {a b c d e f g h i x y z : Int} : (cM a b c d e f g h i).ap (cV x y z) = cV (a * x + b * y + c * z) (d * x + e * y + f * z) (g * x + h * y + i * z) := by
  ext <;> simp only [M3.ap, cM, cV, Rat.intCast_add, Rat.intCast_mul]
/-- three ints that are a place, up to a number: alone -/
theorem cV_told {x y z x' y' z' : Int} {k : Rat} (hb : Bare [x', y', z']) (hk : k ≠ 0) (e : cV x y z = (cV x' y' z').s k) : toldI [x, y, z] = [x', y', z'] ∧ ∃ i ∈ [x, y, z], i ≠ 0 := by
  simp only [cV, V3.s, V3.mk.injEq] at e
  obtain ⟨r1, r2, r3⟩ := e
  have hn : ∃ i ∈ [x, y, z], i ≠ 0 := by
    apply Classical.byContradiction
    intro w
    have zz : ∀ k ∈ [x, y, z], k = 0 := fun k hk => Classical.byContradiction fun v => w ⟨k, hk, v⟩
    have key : ∀ {a a' : Int}, (a : Rat) = k * a' → a = 0 → a' = 0 := by
      intro a a' e h
      rw [h] at e
      have e' : k * (a' : Rat) = 0 := by rw [← e]; rfl
      rcases Rat.mul_eq_zero.mp e' with h | h
      · exact absurd h hk
      · exact_mod_cast h
    rw [key r1 (zz x (by simp)), key r2 (zz y (by simp)), key r3 (zz z (by simp))] at hb
    exact absurd hb.1 (by decide)
  exact ⟨told_uniq hn hb hk (by simp only [List.map_cons, List.map_nil, r1, r2, r3]), hn⟩
end MP

/-! PB: bounds of integers as instances; tangents of a parabola told by its focus and rim. -/
namespace MP
open PySem PySem.Spec PyProof.Rows L2
class Le (i : Int) (n : Nat) : Prop where
  le : i.natAbs ≤ n
theorem Le.mono {i : Int} {n m : Nat} (h : Le i n) (hm : n ≤ m) : Le i m := ⟨Nat.le_trans h.le hm⟩
instance le_mul {i j : Int} {n m : Nat} [h : Le i n] [g : Le j m] : Le (i * j) (n * m) := ⟨by rw [Int.natAbs_mul]; exact Nat.mul_le_mul h.le g.le⟩
instance le_add {i j : Int} {n m : Nat} [h : Le i n] [g : Le j m] : Le (i + j) (n + m) := ⟨Nat.le_trans (Int.natAbs_add_le i j) (Nat.add_le_add h.le g.le)⟩
instance le_sub {i j : Int} {n m : Nat} [h : Le i n] [g : Le j m] : Le (i - j) (n + m) := ⟨by have := h.le; have := g.le; omega⟩
instance le_two : Le (2 : Int) 2 := ⟨by decide⟩
theorem Le.szi {i : Int} {n k : Nat} (h : Le i n) (hk : n < 2 ^ k) : SzI i k := ⟨Nat.lt_of_le_of_lt h.le hk⟩
theorem le_of {i : Int} {n : Nat} (h1 : -(n : Int) ≤ i) (h2 : i ≤ n) : Le i n := ⟨by omega⟩
theorem toldI_le {a b c p q r : Int} (h : toldI [a, b, c] = [p, q, r]) : p.natAbs ≤ a.natAbs ∧ q.natAbs ≤ b.natAbs ∧ r.natAbs ≤ c.natAbs := by
  unfold toldI at h
  simp only [List.map_cons, List.map_nil, List.cons.injEq, and_true] at h
  obtain ⟨h1, h2, h3⟩ := h
  have k : ∀ i z : Int, (if sgnI [a, b, c] then i else -i) / (gN [a, b, c] : Int) = z → z.natAbs ≤ i.natAbs := by
    intro i z e
    rw [← e]
    refine Nat.le_trans (Int.natAbs_ediv_le_natAbs ..) ?_
    split
    · exact Nat.le_refl _
    · rw [Int.natAbs_neg]; exact Nat.le_refl _
  exact ⟨k _ _ h1, k _ _ h2, k _ _ h3⟩
section
variable {x y a b c g N G t u v k s : Rat}
theorem pb_u (hu : u = -(a * G) - b * t) (hv : v = -(b * G) + a * t) (hN : N = a * a + b * b) : a * u + b * v = -(N * G) := by
  subst hu hv hN; grind
theorem pb_uv (hu : u = -(a * G) - b * t) (hv : v = -(b * G) + a * t) (hN : N = a * a + b * b) : u * u + v * v = N * (G * G + t * t) := by
  subst hu hv hN; grind
theorem pb_nz (hu : u = -(a * G) - b * t) (hv : v = -(b * G) + a * t) (hN : N = a * a + b * b) (n0 : N ≠ 0) (g0 : G ≠ 0) : ¬ (u = 0 ∧ v = 0) := by
  rintro ⟨z1, z2⟩
  have h := pb_u hu hv hN
  rw [z1, z2] at h
  exact rmul_ne n0 g0 (by grind)
/-- the dual row at the line -/
theorem pb_dual {M κ x1 x2 x3 x4 x5 x6 U V W l : Rat} (hu : u = -(a * G) - b * t) (hv : v = -(b * G) + a * t) (hN : N = a * a + b * b) (hl : l = u * (x + u / 2) + v * (y + v / 2))
    (h1 : x1 = M * (-(G * (N * G)) + 2 * (x * (a * G)))) (h2 : x2 = M * (2 * (x * (b * G) + y * (a * G)))) (h3 : x3 = M * (-(G * (N * G)) + 2 * (y * (b * G)))) (h4 : x4 = M * (2 * (a * G))) (h5 : x5 = M * (2 * (b * G))) (h6 : x6 = 0)
    (hU : U = κ * u) (hV : V = κ * v) (hW : W = κ * -l) : x1 * U * U + x2 * U * V + x3 * V * V + x4 * U * W + x5 * V * W + x6 * W * W = 0 := by
  have e1 := pb_u hu hv hN
  have e2 : x * u + y * v - l = -(u * u + v * v) / 2 := by rw [hl]; grind
  clear hu hv hN hl
  have e3 : x1 * U * U + x2 * U * V + x3 * V * V + x4 * U * W + x5 * V * W + x6 * W * W = M * (κ * κ) * G * (-(N * G) * (u * u + v * v) + 2 * ((x * u + y * v - l) * (a * u + b * v))) := by
    subst h1 h2 h3 h4 h5 h6 hU hV hW
    grind
  rw [e3, e1, e2]
  grind
/-- the place of touching -/
theorem pb_line {κ U V W l X Y : Rat} (hu : u = -(a * G) - b * t) (hv : v = -(b * G) + a * t) (hN : N = a * a + b * b) (hl : l = u * (x + u / 2) + v * (y + v / 2)) (hs : 2 * (s * (N * G)) = u * u + v * v) (hX : X = x + u + s * a) (hY : Y = y + v + s * b)
    (hU : U = κ * u) (hV : V = κ * v) (hW : W = κ * -l) : U * X + V * Y + W = 0 := by
  have e1 := pb_u hu hv hN
  clear hu hv hN
  have e3 : U * X + V * Y + W = κ * ((u * u + v * v) / 2 + s * (a * u + b * v)) := by
    subst hU hV hW hl hX hY
    grind
  rw [e3, e1, ← hs]
  grind
theorem pb_on {X Y : Rat} (hu : u = -(a * G) - b * t) (hv : v = -(b * G) + a * t) (hN : N = a * a + b * b) (hg : a * x + b * y + c = N * G) (hX : X = x + u + s * a) (hY : Y = y + v + s * b) : a * X + b * Y + c = s * N := by
  have e1 := pb_u hu hv hN
  have e3 : a * X + b * Y + c = (a * x + b * y + c) + (a * u + b * v) + s * (a * a + b * b) := by
    subst hX hY
    grind
  rw [e3, e1, ← hN, hg]
  grind
theorem pb_sq {X Y : Rat} (hu : u = -(a * G) - b * t) (hv : v = -(b * G) + a * t) (hN : N = a * a + b * b) (hs : 2 * (s * (N * G)) = u * u + v * v) (hX : X = x + u + s * a) (hY : Y = y + v + s * b) : (X - x) * (X - x) + (Y - y) * (Y - y) = s * s * N := by
  have e1 := pb_u hu hv hN
  have e3 : (X - x) * (X - x) + (Y - y) * (Y - y) = (u * u + v * v) + 2 * (s * (a * u + b * v)) + s * s * (a * a + b * b) := by
    subst hX hY
    grind
  rw [e3, e1, ← hs, ← hN]
  grind
/-- a corner: where two tangents meet -/
theorem pb_corner {κ U V W l r X Y P Q : Rat} (hu : u = -(a * G) - b * t) (hv : v = -(b * G) + a * t) (hN : N = a * a + b * b) (hl : l = u * (x + u / 2) + v * (y + v / 2)) (hP : 2 * P = t + r) (hQ : 2 * (Q * G) = t * r - G * G) (hX : X = x + (-(b * P) + a * Q)) (hY : Y = y + (a * P + b * Q))
    (hU : U = κ * u) (hV : V = κ * v) (hW : W = κ * -l) : U * X + V * Y + W = 0 := by
  have e1 := pb_u hu hv hN
  have e2 := pb_uv hu hv hN
  have e4 : a * v - b * u = N * t := by rw [hu, hv, hN]; grind
  clear hu hv hN
  have e3 : U * X + V * Y + W = κ * (P * (a * v - b * u) + Q * (a * u + b * v) - (u * u + v * v) / 2) := by
    subst hU hV hW hl hX hY
    grind
  rw [e3, e1, e2, e4]
  have : P * (N * t) + Q * -(N * G) - N * (G * G + t * t) / 2 = N * ((2 * P) * t - 2 * (Q * G) - G * G - t * t) / 2 := by grind
  rw [this, hP, hQ]
  grind
theorem pb_det {κ κ' U V U' V' u' v' r : Rat} (hu : u = -(a * G) - b * t) (hv : v = -(b * G) + a * t) (hu' : u' = -(a * G) - b * r) (hv' : v' = -(b * G) + a * r) (hN : N = a * a + b * b) (hU : U = κ * u) (hV : V = κ * v) (hU' : U' = κ' * u') (hV' : V' = κ' * v') : U * V' - U' * V = κ * κ' * (N * G * (t - r)) := by
  subst hU hV hU' hV'
  have : u * v' - u' * v = N * G * (t - r) := by subst hu hv hu' hv' hN; grind
  rw [← this]
  grind
/-- the circle around three corners holds the focus: in places along and upright to the rim -/
theorem pb_circle {t r G P Q p q z : Rat} (g0 : G ≠ 0) (hP : 2 * P = t + r) (hQ : 2 * (Q * G) = t * r - G * G) (hp : 4 * (G * G) * p = G * G * (t + r + z) - t * r * z) (hq : 4 * G * q = t * r + t * z + r * z - G * G) : (P - p) * (P - p) + (Q - q) * (Q - q) = p * p + q * q := by
  have : P * P + Q * Q = 2 * (P * p + Q * q) := by
    have g2 : G * G ≠ 0 := rmul_ne g0 g0
    have e : G * G * (4 * (P * P + Q * Q)) = G * G * (4 * (2 * (P * p + Q * q))) := by
      have e1 : G * G * (4 * (P * P + Q * Q)) = G * G * ((2 * P) * (2 * P)) + (2 * (Q * G)) * (2 * (Q * G)) := by grind
      have e2 : G * G * (4 * (2 * (P * p + Q * q))) = (2 * P) * (4 * (G * G) * p) + (2 * (Q * G)) * (4 * G * q) := by grind
      rw [e1, e2, hP, hQ, hp, hq]
      grind
    have e4 : P * P + Q * Q - 2 * (P * p + Q * q) = 0 := by
      have : G * G * (P * P + Q * Q - 2 * (P * p + Q * q)) = 0 := by grind
      rcases Rat.mul_eq_zero.mp this with w | w
      · exact absurd w g2
      · exact w
    grind
  grind
theorem pb_len {P Q p q x y X Y x' y' : Rat} (hN : N = a * a + b * b) (hX : X = x + (-(b * P) + a * Q)) (hY : Y = y + (a * P + b * Q)) (hx : x' = x + (-(b * p) + a * q)) (hy : y' = y + (a * p + b * q)) : (x' - X) * (x' - X) + (y' - Y) * (y' - Y) = N * ((P - p) * (P - p) + (Q - q) * (Q - q)) := by
  subst hN hX hY hx hy
  grind
/-- three corners are a triangle -/
theorem pb_area {t r z G P1 Q1 P2 Q2 P3 Q3 x y : Rat} (hN : N = a * a + b * b) (n0 : N ≠ 0) (g0 : G ≠ 0) (h1 : 2 * P1 = t + r) (k1 : 2 * (Q1 * G) = t * r - G * G) (h2 : 2 * P2 = t + z) (k2 : 2 * (Q2 * G) = t * z - G * G) (h3 : 2 * P3 = r + z) (k3 : 2 * (Q3 * G) = r * z - G * G) (d1 : t - r ≠ 0) (d2 : t - z ≠ 0) (d3 : r - z ≠ 0) :
    (x + (-(b * P2) + a * Q2) - (x + (-(b * P1) + a * Q1))) * (y + (a * P3 + b * Q3) - (y + (a * P1 + b * Q1))) - (x + (-(b * P3) + a * Q3) - (x + (-(b * P1) + a * Q1))) * (y + (a * P2 + b * Q2) - (y + (a * P1 + b * Q1))) ≠ 0 := by
  have e : (x + (-(b * P2) + a * Q2) - (x + (-(b * P1) + a * Q1))) * (y + (a * P3 + b * Q3) - (y + (a * P1 + b * Q1))) - (x + (-(b * P3) + a * Q3) - (x + (-(b * P1) + a * Q1))) * (y + (a * P2 + b * Q2) - (y + (a * P1 + b * Q1))) = N * ((Q2 - Q1) * (P3 - P1) - (P2 - P1) * (Q3 - Q1)) := by
    subst hN; grind
  rw [e]
  refine rmul_ne n0 fun w => ?_
  have f : 4 * G * ((Q2 - Q1) * (P3 - P1) - (P2 - P1) * (Q3 - Q1)) = (2 * (Q2 * G) - 2 * (Q1 * G)) * (2 * P3 - 2 * P1) - (2 * P2 - 2 * P1) * (2 * (Q3 * G) - 2 * (Q1 * G)) := by grind
  rw [w, h1, k1, h2, k2, h3, k3] at f
  have : (t - r) * ((t - z) * (r - z)) = 0 := by grind
  exact rmul_ne d1 (rmul_ne d2 d3) this
/-- a parabola's tangent -/
theorem pb_grad {k u0 X Y x y a b c K1 K2 K3 K4 K5 K6 : Rat} (h : FoR k u0 x y a b c K1 K2 K3 K4 K5 K6) : 2 * K1 * X + (K2 * Y + K4) = 2 * k * ((X - x) - u0 * ((a * X + b * Y + c) * a)) ∧ K2 * X + (2 * K3 * Y + K5) = 2 * k * ((Y - y) - u0 * ((a * X + b * Y + c) * b)) ∧
    K4 * X + (K5 * Y + 2 * K6) = 2 * (K1 * (X * X) + K2 * (X * Y) + K3 * (Y * Y) + K4 * X + K5 * Y + K6) - (X * (2 * K1 * X + (K2 * Y + K4)) + Y * (K2 * X + (2 * K3 * Y + K5))) := by
  refine ⟨?_, ?_, by grind⟩
  · obtain ⟨rfl, rfl, rfl, rfl, rfl, rfl⟩ := h
    grind
  · obtain ⟨rfl, rfl, rfl, rfl, rfl, rfl⟩ := h
    grind
end
end MP

/-! printed by gen.py: the defs of threecorners_k62_whole_parabolas_and_foc -/
namespace K62
open PySem PySem.Spec PyProof.Rows L2 MP
def topS (i : Nat) : Stmt := PySem.Challenge.pw_threecorners_k62_whole_parabolas_and_foc.main.body.getD i (.Pass ⟨0, 0, 0, 0⟩)
abbrev s__law_draw : Stmt := topS 54
abbrev s__law_state : Stmt := topS 53
abbrev s_lowest : Stmt := topS 2
def b_lowest : ISs :=
    (.cons (.asg (.name 2 "common" ⟨4,4,4,10⟩) (.ifx (.cmp (.var 1 "q" ⟨4,26,4,27⟩) .Gt (.cst (.int 0) 0 ⟨4,30,4,31⟩) ⟨4,26,4,31⟩) (.bcall "gcd" (.cons (.var 0 "p" ⟨4,17,4,18⟩) (.cons (.var 1 "q" ⟨4,20,4,21⟩) .nil)) ⟨4,13,4,16⟩ ⟨4,13,4,22⟩) (.neg (.bcall "gcd" (.cons (.var 0 "p" ⟨4,42,4,43⟩) (.cons (.var 1 "q" ⟨4,45,4,46⟩) .nil)) ⟨4,38,4,41⟩ ⟨4,38,4,47⟩) ⟨4,37,4,47⟩) ⟨4,13,4,47⟩) [] false ⟨4,4,4,47⟩)
    (.cons (.ret (.tup (.cons (.bin (.var 0 "p" ⟨5,12,5,13⟩) .FloorDiv (.var 2 "common" ⟨5,17,5,23⟩) ⟨5,12,5,23⟩) (.cons (.bin (.var 1 "q" ⟨5,25,5,26⟩) .FloorDiv (.var 2 "common" ⟨5,30,5,36⟩) ⟨5,25,5,36⟩) .nil)) 0 ⟨5,11,5,37⟩) [] ⟨5,4,5,37⟩)
    .nil))
abbrev d_lowest : FD := ⟨"lowest", s_lowest, b_lowest, ["p", "q"], ["p", "q", "common"], false⟩
abbrev s_add : Stmt := topS 3
def b_add : ISs :=
    (.cons (.ret (.call "lowest" (.cons (.bin (.bin (.idx (.var 0 "a" ⟨7,18,7,19⟩) (.cst (.int 0) 0 ⟨7,20,7,21⟩) ⟨7,18,7,22⟩) .Mult (.idx (.var 1 "b" ⟨7,25,7,26⟩) (.cst (.int 1) 0 ⟨7,27,7,28⟩) ⟨7,25,7,29⟩) ⟨7,18,7,29⟩) .Add (.bin (.idx (.var 1 "b" ⟨7,32,7,33⟩) (.cst (.int 0) 0 ⟨7,34,7,35⟩) ⟨7,32,7,36⟩) .Mult (.idx (.var 0 "a" ⟨7,39,7,40⟩) (.cst (.int 1) 0 ⟨7,41,7,42⟩) ⟨7,39,7,43⟩) ⟨7,32,7,43⟩) ⟨7,18,7,43⟩) (.cons (.bin (.idx (.var 0 "a" ⟨7,45,7,46⟩) (.cst (.int 1) 0 ⟨7,47,7,48⟩) ⟨7,45,7,49⟩) .Mult (.idx (.var 1 "b" ⟨7,52,7,53⟩) (.cst (.int 1) 0 ⟨7,54,7,55⟩) ⟨7,52,7,56⟩) ⟨7,45,7,56⟩) .nil)) ⟨7,11,7,17⟩ ⟨7,11,7,57⟩) [] ⟨7,4,7,57⟩)
    .nil)
abbrev d_add : FD := ⟨"add", s_add, b_add, ["a", "b"], ["a", "b"], false⟩
abbrev s_sub : Stmt := topS 4
def b_sub : ISs :=
    (.cons (.ret (.call "lowest" (.cons (.bin (.bin (.idx (.var 0 "a" ⟨9,18,9,19⟩) (.cst (.int 0) 0 ⟨9,20,9,21⟩) ⟨9,18,9,22⟩) .Mult (.idx (.var 1 "b" ⟨9,25,9,26⟩) (.cst (.int 1) 0 ⟨9,27,9,28⟩) ⟨9,25,9,29⟩) ⟨9,18,9,29⟩) .Sub (.bin (.idx (.var 1 "b" ⟨9,32,9,33⟩) (.cst (.int 0) 0 ⟨9,34,9,35⟩) ⟨9,32,9,36⟩) .Mult (.idx (.var 0 "a" ⟨9,39,9,40⟩) (.cst (.int 1) 0 ⟨9,41,9,42⟩) ⟨9,39,9,43⟩) ⟨9,32,9,43⟩) ⟨9,18,9,43⟩) (.cons (.bin (.idx (.var 0 "a" ⟨9,45,9,46⟩) (.cst (.int 1) 0 ⟨9,47,9,48⟩) ⟨9,45,9,49⟩) .Mult (.idx (.var 1 "b" ⟨9,52,9,53⟩) (.cst (.int 1) 0 ⟨9,54,9,55⟩) ⟨9,52,9,56⟩) ⟨9,45,9,56⟩) .nil)) ⟨9,11,9,17⟩ ⟨9,11,9,57⟩) [] ⟨9,4,9,57⟩)
    .nil)
abbrev d_sub : FD := ⟨"sub", s_sub, b_sub, ["a", "b"], ["a", "b"], false⟩
abbrev s_mul : Stmt := topS 5
def b_mul : ISs :=
    (.cons (.ret (.call "lowest" (.cons (.bin (.idx (.var 0 "a" ⟨11,18,11,19⟩) (.cst (.int 0) 0 ⟨11,20,11,21⟩) ⟨11,18,11,22⟩) .Mult (.idx (.var 1 "b" ⟨11,25,11,26⟩) (.cst (.int 0) 0 ⟨11,27,11,28⟩) ⟨11,25,11,29⟩) ⟨11,18,11,29⟩) (.cons (.bin (.idx (.var 0 "a" ⟨11,31,11,32⟩) (.cst (.int 1) 0 ⟨11,33,11,34⟩) ⟨11,31,11,35⟩) .Mult (.idx (.var 1 "b" ⟨11,38,11,39⟩) (.cst (.int 1) 0 ⟨11,40,11,41⟩) ⟨11,38,11,42⟩) ⟨11,31,11,42⟩) .nil)) ⟨11,11,11,17⟩ ⟨11,11,11,43⟩) [] ⟨11,4,11,43⟩)
    .nil)
abbrev d_mul : FD := ⟨"mul", s_mul, b_mul, ["a", "b"], ["a", "b"], false⟩
abbrev s_div : Stmt := topS 6
def b_div : ISs :=
    (.cons (.ret (.call "lowest" (.cons (.bin (.idx (.var 0 "a" ⟨13,18,13,19⟩) (.cst (.int 0) 0 ⟨13,20,13,21⟩) ⟨13,18,13,22⟩) .Mult (.idx (.var 1 "b" ⟨13,25,13,26⟩) (.cst (.int 1) 0 ⟨13,27,13,28⟩) ⟨13,25,13,29⟩) ⟨13,18,13,29⟩) (.cons (.bin (.idx (.var 0 "a" ⟨13,31,13,32⟩) (.cst (.int 1) 0 ⟨13,33,13,34⟩) ⟨13,31,13,35⟩) .Mult (.idx (.var 1 "b" ⟨13,38,13,39⟩) (.cst (.int 0) 0 ⟨13,40,13,41⟩) ⟨13,38,13,42⟩) ⟨13,31,13,42⟩) .nil)) ⟨13,11,13,17⟩ ⟨13,11,13,43⟩) [] ⟨13,4,13,43⟩)
    .nil)
abbrev d_div : FD := ⟨"div", s_div, b_div, ["a", "b"], ["a", "b"], false⟩
abbrev s_total : Stmt := topS 7
def b_total : ISs :=
    (.cons (.asg (.name 1 "told" ⟨15,4,15,8⟩) (.tup (.cons (.cst (.int 0) 0 ⟨15,12,15,13⟩) (.cons (.cst (.int 1) 0 ⟨15,15,15,16⟩) .nil)) 0 ⟨15,11,15,17⟩) [] false ⟨15,4,15,17⟩)
    (.cons (.for_ (.name 2 "one" ⟨16,8,16,11⟩) (.seq (.var 0 "parts" ⟨16,15,16,20⟩))
    (.cons (.asg (.name 1 "told" ⟨17,8,17,12⟩) (.call "add" (.cons (.var 1 "told" ⟨17,19,17,23⟩) (.cons (.var 2 "one" ⟨17,25,17,28⟩) .nil)) ⟨17,15,17,18⟩ ⟨17,15,17,29⟩) [] false ⟨17,8,17,29⟩)
    .nil) [] [2] ⟨16,4,17,29⟩)
    (.cons (.ret (.var 1 "told" ⟨18,11,18,15⟩) [] ⟨18,4,18,15⟩)
    .nil)))
abbrev d_total : FD := ⟨"total", s_total, b_total, ["parts"], ["parts", "told", "one"], false⟩
abbrev s_told_integers : Stmt := topS 8
def b_told_integers : ISs :=
    (.cons (.asg (.name 1 "low" ⟨20,4,20,7⟩) (.cst (.int 1) 0 ⟨20,10,20,11⟩) [] false ⟨20,4,20,11⟩)
    (.cons (.for_ (.tup (.cons (.name 2 "_" ⟨21,8,21,9⟩) (.cons (.name 3 "q" ⟨21,11,21,12⟩) .nil)) 0 ⟨21,8,21,12⟩) (.seq (.var 0 "parts" ⟨21,16,21,21⟩))
    (.cons (.asg (.name 1 "low" ⟨22,8,22,11⟩) (.bin (.bin (.var 1 "low" ⟨22,14,22,17⟩) .Mult (.var 3 "q" ⟨22,20,22,21⟩) ⟨22,14,22,21⟩) .FloorDiv (.bcall "gcd" (.cons (.var 1 "low" ⟨22,29,22,32⟩) (.cons (.var 3 "q" ⟨22,34,22,35⟩) .nil)) ⟨22,25,22,28⟩ ⟨22,25,22,36⟩) ⟨22,14,22,36⟩) [] false ⟨22,8,22,36⟩)
    .nil) [] [2, 3] ⟨21,4,22,36⟩)
    (.cons (.setlc 4 "row" ⟨23,4,23,7⟩ (.lc (.bin (.var 8 "p" ⟨23,11,23,12⟩) .Mult (.bin (.var 1 "low" ⟨23,16,23,19⟩) .FloorDiv (.var 3 "q" ⟨23,23,23,24⟩) ⟨23,16,23,24⟩) ⟨23,11,23,25⟩) (.tup (.cons (.name 8 "p" ⟨23,30,23,31⟩) (.cons (.name 3 "q" ⟨23,33,23,34⟩) .nil)) 0 ⟨23,30,23,34⟩) (.seq (.var 0 "parts" ⟨23,38,23,43⟩)) .none { kind := .function, names := [(".0", .local), ("p", .local), ("q", .local), ("low", .free)], isGenerator := false, isCoroutine := false, more := [] } [("p", 8), ("q", 3)] ⟨23,10,23,44⟩) [] false ⟨23,4,23,44⟩)
    (.cons (.asg (.name 5 "common" ⟨24,4,24,10⟩) (.cst (.int 0) 0 ⟨24,13,24,14⟩) [] false ⟨24,4,24,14⟩)
    (.cons (.for_ (.name 6 "one" ⟨25,8,25,11⟩) (.seq (.var 4 "row" ⟨25,15,25,18⟩))
    (.cons (.asg (.name 5 "common" ⟨26,8,26,14⟩) (.bcall "gcd" (.cons (.var 5 "common" ⟨26,21,26,27⟩) (.cons (.var 6 "one" ⟨26,29,26,32⟩) .nil)) ⟨26,17,26,20⟩ ⟨26,17,26,33⟩) [] false ⟨26,8,26,33⟩)
    .nil) [] [6] ⟨25,4,26,33⟩)
    (.cons (.asg (.name 7 "first" ⟨27,4,27,9⟩) (.idx (.lc (.var 6 "one" ⟨27,13,27,16⟩) (.name 6 "one" ⟨27,21,27,24⟩) (.seq (.var 4 "row" ⟨27,28,27,31⟩)) (.some (.cmp (.var 6 "one" ⟨27,35,27,38⟩) .NotEq (.cst (.int 0) 0 ⟨27,42,27,43⟩) ⟨27,35,27,43⟩)) { kind := .function, names := [(".0", .local), ("one", .local)], isGenerator := false, isCoroutine := false, more := [] } [("one", 6)] ⟨27,12,27,44⟩) (.cst (.int 0) 0 ⟨27,45,27,46⟩) ⟨27,12,27,47⟩) [] false ⟨27,4,27,47⟩)
    (.cons (.ret (.bcall "tuple" (.cons (.lc (.ifx (.cmp (.var 7 "first" ⟨28,35,28,40⟩) .Gt (.cst (.int 0) 0 ⟨28,43,28,44⟩) ⟨28,35,28,44⟩) (.bin (.var 6 "one" ⟨28,18,28,21⟩) .FloorDiv (.var 5 "common" ⟨28,25,28,31⟩) ⟨28,18,28,31⟩) (.bin (.neg (.var 6 "one" ⟨28,51,28,54⟩) ⟨28,50,28,54⟩) .FloorDiv (.var 5 "common" ⟨28,58,28,64⟩) ⟨28,50,28,64⟩) ⟨28,18,28,64⟩) (.name 6 "one" ⟨28,69,28,72⟩) (.seq (.var 4 "row" ⟨28,76,28,79⟩)) .none { kind := .function, names := [(".0", .local), ("one", .local), ("common", .free), ("first", .free)], isGenerator := false, isCoroutine := false, more := [] } [("one", 6)] ⟨28,17,28,80⟩) .nil) ⟨28,11,28,16⟩ ⟨28,11,28,81⟩) [] ⟨28,4,28,81⟩)
    .nil)))))))
abbrev d_told_integers : FD := ⟨"told_integers", s_told_integers, b_told_integers, ["parts"], ["parts", "low", "_", "q", "row", "common", "one", "first", "p"], false⟩
abbrev s_worth_at_lines : Stmt := topS 10
def b_worth_at_lines : ISs :=
    (.cons (.ret (.call "total" (.cons (.lst (.cons (.call "mul" (.cons (.tup (.cons (.idx (.var 0 "line" ⟨31,23,31,27⟩) (.cst (.int 0) 0 ⟨31,28,31,29⟩) ⟨31,23,31,30⟩) (.cons (.cst (.int 1) 0 ⟨31,32,31,33⟩) .nil)) 0 ⟨31,22,31,34⟩) (.cons (.idx (.var 1 "place" ⟨31,36,31,41⟩) (.cst (.int 0) 0 ⟨31,42,31,43⟩) ⟨31,36,31,44⟩) .nil)) ⟨31,18,31,21⟩ ⟨31,18,31,45⟩) (.cons (.call "mul" (.cons (.tup (.cons (.idx (.var 0 "line" ⟨31,52,31,56⟩) (.cst (.int 1) 0 ⟨31,57,31,58⟩) ⟨31,52,31,59⟩) (.cons (.cst (.int 1) 0 ⟨31,61,31,62⟩) .nil)) 0 ⟨31,51,31,63⟩) (.cons (.idx (.var 1 "place" ⟨31,65,31,70⟩) (.cst (.int 1) 0 ⟨31,71,31,72⟩) ⟨31,65,31,73⟩) .nil)) ⟨31,47,31,50⟩ ⟨31,47,31,74⟩) (.cons (.tup (.cons (.idx (.var 0 "line" ⟨31,77,31,81⟩) (.cst (.int 2) 0 ⟨31,82,31,83⟩) ⟨31,77,31,84⟩) (.cons (.cst (.int 1) 0 ⟨31,86,31,87⟩) .nil)) 0 ⟨31,76,31,88⟩) .nil))) ⟨31,17,31,89⟩) .nil) ⟨31,11,31,16⟩ ⟨31,11,31,90⟩) [] ⟨31,4,31,90⟩)
    .nil)
abbrev d_worth_at_lines : FD := ⟨"worth_at_lines", s_worth_at_lines, b_worth_at_lines, ["line", "place"], ["line", "place"], false⟩
abbrev s_is_on : Stmt := topS 12
def b_is_on : ISs :=
    (.cons (.ret (.cmp (.call "worth_at_lines" (.cons (.var 0 "line" ⟨34,26,34,30⟩) (.cons (.var 1 "place" ⟨34,32,34,37⟩) .nil)) ⟨34,11,34,25⟩ ⟨34,11,34,38⟩) .Eq (.tup (.cons (.cst (.int 0) 0 ⟨34,43,34,44⟩) (.cons (.cst (.int 1) 0 ⟨34,46,34,47⟩) .nil)) 0 ⟨34,42,34,48⟩) ⟨34,11,34,48⟩) [] ⟨34,4,34,48⟩)
    .nil)
abbrev d_is_on : FD := ⟨"is_on", s_is_on, b_is_on, ["line", "place"], ["line", "place"], false⟩
abbrev s_double_area : Stmt := topS 13
def b_double_area : ISs :=
    (.cons (.asg (.name 3 "first" ⟨36,4,36,9⟩) (.call "mul" (.cons (.call "sub" (.cons (.idx (.var 1 "two" ⟨36,20,36,23⟩) (.cst (.int 0) 0 ⟨36,24,36,25⟩) ⟨36,20,36,26⟩) (.cons (.idx (.var 0 "one" ⟨36,28,36,31⟩) (.cst (.int 0) 0 ⟨36,32,36,33⟩) ⟨36,28,36,34⟩) .nil)) ⟨36,16,36,19⟩ ⟨36,16,36,35⟩) (.cons (.call "sub" (.cons (.idx (.var 2 "three" ⟨36,41,36,46⟩) (.cst (.int 1) 0 ⟨36,47,36,48⟩) ⟨36,41,36,49⟩) (.cons (.idx (.var 0 "one" ⟨36,51,36,54⟩) (.cst (.int 1) 0 ⟨36,55,36,56⟩) ⟨36,51,36,57⟩) .nil)) ⟨36,37,36,40⟩ ⟨36,37,36,58⟩) .nil)) ⟨36,12,36,15⟩ ⟨36,12,36,59⟩) [] false ⟨36,4,36,59⟩)
    (.cons (.ret (.call "sub" (.cons (.var 3 "first" ⟨37,15,37,20⟩) (.cons (.call "mul" (.cons (.call "sub" (.cons (.idx (.var 2 "three" ⟨37,30,37,35⟩) (.cst (.int 0) 0 ⟨37,36,37,37⟩) ⟨37,30,37,38⟩) (.cons (.idx (.var 0 "one" ⟨37,40,37,43⟩) (.cst (.int 0) 0 ⟨37,44,37,45⟩) ⟨37,40,37,46⟩) .nil)) ⟨37,26,37,29⟩ ⟨37,26,37,47⟩) (.cons (.call "sub" (.cons (.idx (.var 1 "two" ⟨37,53,37,56⟩) (.cst (.int 1) 0 ⟨37,57,37,58⟩) ⟨37,53,37,59⟩) (.cons (.idx (.var 0 "one" ⟨37,61,37,64⟩) (.cst (.int 1) 0 ⟨37,65,37,66⟩) ⟨37,61,37,67⟩) .nil)) ⟨37,49,37,52⟩ ⟨37,49,37,68⟩) .nil)) ⟨37,22,37,25⟩ ⟨37,22,37,69⟩) .nil)) ⟨37,11,37,14⟩ ⟨37,11,37,70⟩) [] ⟨37,4,37,70⟩)
    .nil))
abbrev d_double_area : FD := ⟨"double_area", s_double_area, b_double_area, ["one", "two", "three"], ["one", "two", "three", "first"], false⟩
abbrev s_joined : Stmt := topS 14
def b_joined : ISs :=
    (.cons (.par [(2, "a", ⟨39,4,39,5⟩), (3, "b", ⟨39,7,39,8⟩)] 0 ⟨39,4,39,8⟩ (.cons (.call "sub" (.cons (.idx (.var 0 "one" ⟨39,16,39,19⟩) (.cst (.int 1) 0 ⟨39,20,39,21⟩) ⟨39,16,39,22⟩) (.cons (.idx (.var 1 "other" ⟨39,24,39,29⟩) (.cst (.int 1) 0 ⟨39,30,39,31⟩) ⟨39,24,39,32⟩) .nil)) ⟨39,12,39,15⟩ ⟨39,12,39,33⟩) (.cons (.call "sub" (.cons (.idx (.var 1 "other" ⟨39,39,39,44⟩) (.cst (.int 0) 0 ⟨39,45,39,46⟩) ⟨39,39,39,47⟩) (.cons (.idx (.var 0 "one" ⟨39,49,39,52⟩) (.cst (.int 0) 0 ⟨39,53,39,54⟩) ⟨39,49,39,55⟩) .nil)) ⟨39,35,39,38⟩ ⟨39,35,39,56⟩) .nil)) 0 ⟨39,11,39,57⟩ [] ⟨39,4,39,57⟩)
    (.cons (.ret (.call "told_integers" (.cons (.lst (.cons (.var 2 "a" ⟨40,26,40,27⟩) (.cons (.var 3 "b" ⟨40,29,40,30⟩) (.cons (.call "sub" (.cons (.tup (.cons (.cst (.int 0) 0 ⟨40,37,40,38⟩) (.cons (.cst (.int 1) 0 ⟨40,40,40,41⟩) .nil)) 0 ⟨40,36,40,42⟩) (.cons (.call "add" (.cons (.call "mul" (.cons (.var 2 "a" ⟨40,52,40,53⟩) (.cons (.idx (.var 0 "one" ⟨40,55,40,58⟩) (.cst (.int 0) 0 ⟨40,59,40,60⟩) ⟨40,55,40,61⟩) .nil)) ⟨40,48,40,51⟩ ⟨40,48,40,62⟩) (.cons (.call "mul" (.cons (.var 3 "b" ⟨40,68,40,69⟩) (.cons (.idx (.var 0 "one" ⟨40,71,40,74⟩) (.cst (.int 1) 0 ⟨40,75,40,76⟩) ⟨40,71,40,77⟩) .nil)) ⟨40,64,40,67⟩ ⟨40,64,40,78⟩) .nil)) ⟨40,44,40,47⟩ ⟨40,44,40,79⟩) .nil)) ⟨40,32,40,35⟩ ⟨40,32,40,80⟩) .nil))) ⟨40,25,40,81⟩) .nil) ⟨40,11,40,24⟩ ⟨40,11,40,82⟩) [] ⟨40,4,40,82⟩)
    .nil))
abbrev d_joined : FD := ⟨"joined", s_joined, b_joined, ["one", "other"], ["one", "other", "a", "b"], false⟩
abbrev s_met : Stmt := topS 15
def b_met : ISs :=
    (.cons (.asg (.name 2 "low" ⟨42,4,42,7⟩) (.bin (.bin (.idx (.var 0 "one" ⟨42,10,42,13⟩) (.cst (.int 0) 0 ⟨42,14,42,15⟩) ⟨42,10,42,16⟩) .Mult (.idx (.var 1 "other" ⟨42,19,42,24⟩) (.cst (.int 1) 0 ⟨42,25,42,26⟩) ⟨42,19,42,27⟩) ⟨42,10,42,27⟩) .Sub (.bin (.idx (.var 1 "other" ⟨42,30,42,35⟩) (.cst (.int 0) 0 ⟨42,36,42,37⟩) ⟨42,30,42,38⟩) .Mult (.idx (.var 0 "one" ⟨42,41,42,44⟩) (.cst (.int 1) 0 ⟨42,45,42,46⟩) ⟨42,41,42,47⟩) ⟨42,30,42,47⟩) ⟨42,10,42,47⟩) [] false ⟨42,4,42,47⟩)
    (.cons (.ite (.cmp (.var 2 "low" ⟨43,7,43,10⟩) .Eq (.cst (.int 0) 0 ⟨43,14,43,15⟩) ⟨43,7,43,15⟩)
    (.cons (.ret (.cst .none 0 ⟨44,15,44,19⟩) [] ⟨44,8,44,19⟩)
    .nil)
    .nil [] ⟨43,4,44,19⟩)
    (.cons (.asg (.name 3 "x" ⟨45,4,45,5⟩) (.bin (.bin (.idx (.var 0 "one" ⟨45,8,45,11⟩) (.cst (.int 1) 0 ⟨45,12,45,13⟩) ⟨45,8,45,14⟩) .Mult (.idx (.var 1 "other" ⟨45,17,45,22⟩) (.cst (.int 2) 0 ⟨45,23,45,24⟩) ⟨45,17,45,25⟩) ⟨45,8,45,25⟩) .Sub (.bin (.idx (.var 1 "other" ⟨45,28,45,33⟩) (.cst (.int 1) 0 ⟨45,34,45,35⟩) ⟨45,28,45,36⟩) .Mult (.idx (.var 0 "one" ⟨45,39,45,42⟩) (.cst (.int 2) 0 ⟨45,43,45,44⟩) ⟨45,39,45,45⟩) ⟨45,28,45,45⟩) ⟨45,8,45,45⟩) [] false ⟨45,4,45,45⟩)
    (.cons (.asg (.name 4 "y" ⟨46,4,46,5⟩) (.bin (.bin (.idx (.var 1 "other" ⟨46,8,46,13⟩) (.cst (.int 0) 0 ⟨46,14,46,15⟩) ⟨46,8,46,16⟩) .Mult (.idx (.var 0 "one" ⟨46,19,46,22⟩) (.cst (.int 2) 0 ⟨46,23,46,24⟩) ⟨46,19,46,25⟩) ⟨46,8,46,25⟩) .Sub (.bin (.idx (.var 0 "one" ⟨46,28,46,31⟩) (.cst (.int 0) 0 ⟨46,32,46,33⟩) ⟨46,28,46,34⟩) .Mult (.idx (.var 1 "other" ⟨46,37,46,42⟩) (.cst (.int 2) 0 ⟨46,43,46,44⟩) ⟨46,37,46,45⟩) ⟨46,28,46,45⟩) ⟨46,8,46,45⟩) [] false ⟨46,4,46,45⟩)
    (.cons (.ret (.tup (.cons (.call "div" (.cons (.tup (.cons (.var 3 "x" ⟨47,17,47,18⟩) (.cons (.cst (.int 1) 0 ⟨47,20,47,21⟩) .nil)) 0 ⟨47,16,47,22⟩) (.cons (.tup (.cons (.var 2 "low" ⟨47,25,47,28⟩) (.cons (.cst (.int 1) 0 ⟨47,30,47,31⟩) .nil)) 0 ⟨47,24,47,32⟩) .nil)) ⟨47,12,47,15⟩ ⟨47,12,47,33⟩) (.cons (.call "div" (.cons (.tup (.cons (.var 4 "y" ⟨47,40,47,41⟩) (.cons (.cst (.int 1) 0 ⟨47,43,47,44⟩) .nil)) 0 ⟨47,39,47,45⟩) (.cons (.tup (.cons (.var 2 "low" ⟨47,48,47,51⟩) (.cons (.cst (.int 1) 0 ⟨47,53,47,54⟩) .nil)) 0 ⟨47,47,47,55⟩) .nil)) ⟨47,35,47,38⟩ ⟨47,35,47,56⟩) .nil)) 0 ⟨47,11,47,57⟩) [] ⟨47,4,47,57⟩)
    .nil)))))
abbrev d_met : FD := ⟨"met", s_met, b_met, ["one", "other"], ["one", "other", "low", "x", "y"], false⟩
abbrev s_line_through : Stmt := topS 16
def b_line_through : ISs :=
    (.cons (.asg (.name 3 "rest" ⟨49,4,49,8⟩) (.call "add" (.cons (.call "mul" (.cons (.tup (.cons (.var 0 "a" ⟨49,20,49,21⟩) (.cons (.cst (.int 1) 0 ⟨49,23,49,24⟩) .nil)) 0 ⟨49,19,49,25⟩) (.cons (.idx (.var 2 "place" ⟨49,27,49,32⟩) (.cst (.int 0) 0 ⟨49,33,49,34⟩) ⟨49,27,49,35⟩) .nil)) ⟨49,15,49,18⟩ ⟨49,15,49,36⟩) (.cons (.call "mul" (.cons (.tup (.cons (.var 1 "b" ⟨49,43,49,44⟩) (.cons (.cst (.int 1) 0 ⟨49,46,49,47⟩) .nil)) 0 ⟨49,42,49,48⟩) (.cons (.idx (.var 2 "place" ⟨49,50,49,55⟩) (.cst (.int 1) 0 ⟨49,56,49,57⟩) ⟨49,50,49,58⟩) .nil)) ⟨49,38,49,41⟩ ⟨49,38,49,59⟩) .nil)) ⟨49,11,49,14⟩ ⟨49,11,49,60⟩) [] false ⟨49,4,49,60⟩)
    (.cons (.ret (.call "told_integers" (.cons (.lst (.cons (.tup (.cons (.var 0 "a" ⟨50,27,50,28⟩) (.cons (.cst (.int 1) 0 ⟨50,30,50,31⟩) .nil)) 0 ⟨50,26,50,32⟩) (.cons (.tup (.cons (.var 1 "b" ⟨50,35,50,36⟩) (.cons (.cst (.int 1) 0 ⟨50,38,50,39⟩) .nil)) 0 ⟨50,34,50,40⟩) (.cons (.call "sub" (.cons (.tup (.cons (.cst (.int 0) 0 ⟨50,47,50,48⟩) (.cons (.cst (.int 1) 0 ⟨50,50,50,51⟩) .nil)) 0 ⟨50,46,50,52⟩) (.cons (.var 3 "rest" ⟨50,54,50,58⟩) .nil)) ⟨50,42,50,45⟩ ⟨50,42,50,59⟩) .nil))) ⟨50,25,50,60⟩) .nil) ⟨50,11,50,24⟩ ⟨50,11,50,61⟩) [] ⟨50,4,50,61⟩)
    .nil))
abbrev d_line_through : FD := ⟨"line_through", s_line_through, b_line_through, ["a", "b", "place"], ["a", "b", "place", "rest"], false⟩
abbrev s_upright_through : Stmt := topS 17
def b_upright_through : ISs :=
    (.cons (.ret (.call "line_through" (.cons (.idx (.var 0 "line" ⟨52,24,52,28⟩) (.cst (.int 1) 0 ⟨52,29,52,30⟩) ⟨52,24,52,31⟩) (.cons (.neg (.idx (.var 0 "line" ⟨52,34,52,38⟩) (.cst (.int 0) 0 ⟨52,39,52,40⟩) ⟨52,34,52,41⟩) ⟨52,33,52,41⟩) (.cons (.var 1 "place" ⟨52,43,52,48⟩) .nil))) ⟨52,11,52,23⟩ ⟨52,11,52,49⟩) [] ⟨52,4,52,49⟩)
    .nil)
abbrev d_upright_through : FD := ⟨"upright_through", s_upright_through, b_upright_through, ["line", "place"], ["line", "place"], false⟩
abbrev s_foot : Stmt := topS 18
def b_foot : ISs :=
    (.cons (.ret (.call "met" (.cons (.var 0 "line" ⟨54,15,54,19⟩) (.cons (.call "upright_through" (.cons (.var 0 "line" ⟨54,37,54,41⟩) (.cons (.var 1 "place" ⟨54,43,54,48⟩) .nil)) ⟨54,21,54,36⟩ ⟨54,21,54,49⟩) .nil)) ⟨54,11,54,14⟩ ⟨54,11,54,50⟩) [] ⟨54,4,54,50⟩)
    .nil)
abbrev d_foot : FD := ⟨"foot", s_foot, b_foot, ["line", "place"], ["line", "place"], false⟩
abbrev s_mirrored : Stmt := topS 19
def b_mirrored : ISs :=
    (.cons (.asg (.name 2 "at" ⟨56,4,56,6⟩) (.call "foot" (.cons (.var 0 "line" ⟨56,14,56,18⟩) (.cons (.var 1 "place" ⟨56,20,56,25⟩) .nil)) ⟨56,9,56,13⟩ ⟨56,9,56,26⟩) [] false ⟨56,4,56,26⟩)
    (.cons (.ret (.tup (.cons (.call "sub" (.cons (.call "mul" (.cons (.tup (.cons (.cst (.int 2) 0 ⟨57,21,57,22⟩) (.cons (.cst (.int 1) 0 ⟨57,24,57,25⟩) .nil)) 0 ⟨57,20,57,26⟩) (.cons (.idx (.var 2 "at" ⟨57,28,57,30⟩) (.cst (.int 0) 0 ⟨57,31,57,32⟩) ⟨57,28,57,33⟩) .nil)) ⟨57,16,57,19⟩ ⟨57,16,57,34⟩) (.cons (.idx (.var 1 "place" ⟨57,36,57,41⟩) (.cst (.int 0) 0 ⟨57,42,57,43⟩) ⟨57,36,57,44⟩) .nil)) ⟨57,12,57,15⟩ ⟨57,12,57,45⟩) (.cons (.call "sub" (.cons (.call "mul" (.cons (.tup (.cons (.cst (.int 2) 0 ⟨57,56,57,57⟩) (.cons (.cst (.int 1) 0 ⟨57,59,57,60⟩) .nil)) 0 ⟨57,55,57,61⟩) (.cons (.idx (.var 2 "at" ⟨57,63,57,65⟩) (.cst (.int 1) 0 ⟨57,66,57,67⟩) ⟨57,63,57,68⟩) .nil)) ⟨57,51,57,54⟩ ⟨57,51,57,69⟩) (.cons (.idx (.var 1 "place" ⟨57,71,57,76⟩) (.cst (.int 1) 0 ⟨57,77,57,78⟩) ⟨57,71,57,79⟩) .nil)) ⟨57,47,57,50⟩ ⟨57,47,57,80⟩) .nil)) 0 ⟨57,11,57,81⟩) [] ⟨57,4,57,81⟩)
    .nil))
abbrev d_mirrored : FD := ⟨"mirrored", s_mirrored, b_mirrored, ["line", "place"], ["line", "place", "at"], false⟩
abbrev s_middle : Stmt := topS 20
def b_middle : ISs :=
    (.cons (.ret (.tup (.cons (.call "div" (.cons (.call "add" (.cons (.idx (.var 0 "one" ⟨59,20,59,23⟩) (.cst (.int 0) 0 ⟨59,24,59,25⟩) ⟨59,20,59,26⟩) (.cons (.idx (.var 1 "other" ⟨59,28,59,33⟩) (.cst (.int 0) 0 ⟨59,34,59,35⟩) ⟨59,28,59,36⟩) .nil)) ⟨59,16,59,19⟩ ⟨59,16,59,37⟩) (.cons (.tup (.cons (.cst (.int 2) 0 ⟨59,40,59,41⟩) (.cons (.cst (.int 1) 0 ⟨59,43,59,44⟩) .nil)) 0 ⟨59,39,59,45⟩) .nil)) ⟨59,12,59,15⟩ ⟨59,12,59,46⟩) (.cons (.call "div" (.cons (.call "add" (.cons (.idx (.var 0 "one" ⟨59,56,59,59⟩) (.cst (.int 1) 0 ⟨59,60,59,61⟩) ⟨59,56,59,62⟩) (.cons (.idx (.var 1 "other" ⟨59,64,59,69⟩) (.cst (.int 1) 0 ⟨59,70,59,71⟩) ⟨59,64,59,72⟩) .nil)) ⟨59,52,59,55⟩ ⟨59,52,59,73⟩) (.cons (.tup (.cons (.cst (.int 2) 0 ⟨59,76,59,77⟩) (.cons (.cst (.int 1) 0 ⟨59,79,59,80⟩) .nil)) 0 ⟨59,75,59,81⟩) .nil)) ⟨59,48,59,51⟩ ⟨59,48,59,82⟩) .nil)) 0 ⟨59,11,59,83⟩) [] ⟨59,4,59,83⟩)
    .nil)
abbrev d_middle : FD := ⟨"middle", s_middle, b_middle, ["one", "other"], ["one", "other"], false⟩
abbrev s_square_apart : Stmt := topS 21
def b_square_apart : ISs :=
    (.cons (.par [(2, "x", ⟨61,4,61,5⟩), (3, "y", ⟨61,7,61,8⟩)] 0 ⟨61,4,61,8⟩ (.cons (.call "sub" (.cons (.idx (.var 0 "one" ⟨61,16,61,19⟩) (.cst (.int 0) 0 ⟨61,20,61,21⟩) ⟨61,16,61,22⟩) (.cons (.idx (.var 1 "other" ⟨61,24,61,29⟩) (.cst (.int 0) 0 ⟨61,30,61,31⟩) ⟨61,24,61,32⟩) .nil)) ⟨61,12,61,15⟩ ⟨61,12,61,33⟩) (.cons (.call "sub" (.cons (.idx (.var 0 "one" ⟨61,39,61,42⟩) (.cst (.int 1) 0 ⟨61,43,61,44⟩) ⟨61,39,61,45⟩) (.cons (.idx (.var 1 "other" ⟨61,47,61,52⟩) (.cst (.int 1) 0 ⟨61,53,61,54⟩) ⟨61,47,61,55⟩) .nil)) ⟨61,35,61,38⟩ ⟨61,35,61,56⟩) .nil)) 0 ⟨61,11,61,57⟩ [] ⟨61,4,61,57⟩)
    (.cons (.ret (.call "add" (.cons (.call "mul" (.cons (.var 2 "x" ⟨62,19,62,20⟩) (.cons (.var 2 "x" ⟨62,22,62,23⟩) .nil)) ⟨62,15,62,18⟩ ⟨62,15,62,24⟩) (.cons (.call "mul" (.cons (.var 3 "y" ⟨62,30,62,31⟩) (.cons (.var 3 "y" ⟨62,33,62,34⟩) .nil)) ⟨62,26,62,29⟩ ⟨62,26,62,35⟩) .nil)) ⟨62,11,62,14⟩ ⟨62,11,62,36⟩) [] ⟨62,4,62,36⟩)
    .nil))
abbrev d_square_apart : FD := ⟨"square_apart", s_square_apart, b_square_apart, ["one", "other"], ["one", "other", "x", "y"], false⟩
abbrev s_told : Stmt := topS 23
def b_told : ISs :=
    (.cons (.asg (.name 1 "common" ⟨65,4,65,10⟩) (.cst (.int 0) 0 ⟨65,13,65,14⟩) [] false ⟨65,4,65,14⟩)
    (.cons (.for_ (.name 2 "one" ⟨66,8,66,11⟩) (.seq (.var 0 "row" ⟨66,15,66,18⟩))
    (.cons (.asg (.name 1 "common" ⟨67,8,67,14⟩) (.bcall "gcd" (.cons (.var 1 "common" ⟨67,21,67,27⟩) (.cons (.var 2 "one" ⟨67,29,67,32⟩) .nil)) ⟨67,17,67,20⟩ ⟨67,17,67,33⟩) [] false ⟨67,8,67,33⟩)
    .nil) [] [2] ⟨66,4,67,33⟩)
    (.cons (.asg (.name 3 "first" ⟨68,4,68,9⟩) (.idx (.lc (.var 2 "one" ⟨68,13,68,16⟩) (.name 2 "one" ⟨68,21,68,24⟩) (.seq (.var 0 "row" ⟨68,28,68,31⟩)) (.some (.cmp (.var 2 "one" ⟨68,35,68,38⟩) .NotEq (.cst (.int 0) 0 ⟨68,42,68,43⟩) ⟨68,35,68,43⟩)) { kind := .function, names := [(".0", .local), ("one", .local)], isGenerator := false, isCoroutine := false, more := [] } [("one", 2)] ⟨68,12,68,44⟩) (.cst (.int 0) 0 ⟨68,45,68,46⟩) ⟨68,12,68,47⟩) [] false ⟨68,4,68,47⟩)
    (.cons (.ret (.bcall "tuple" (.cons (.lc (.ifx (.cmp (.var 3 "first" ⟨69,35,69,40⟩) .Gt (.cst (.int 0) 0 ⟨69,43,69,44⟩) ⟨69,35,69,44⟩) (.bin (.var 2 "one" ⟨69,18,69,21⟩) .FloorDiv (.var 1 "common" ⟨69,25,69,31⟩) ⟨69,18,69,31⟩) (.bin (.neg (.var 2 "one" ⟨69,51,69,54⟩) ⟨69,50,69,54⟩) .FloorDiv (.var 1 "common" ⟨69,58,69,64⟩) ⟨69,50,69,64⟩) ⟨69,18,69,64⟩) (.name 2 "one" ⟨69,69,69,72⟩) (.seq (.var 0 "row" ⟨69,76,69,79⟩)) .none { kind := .function, names := [(".0", .local), ("one", .local), ("common", .free), ("first", .free)], isGenerator := false, isCoroutine := false, more := [] } [("one", 2)] ⟨69,17,69,80⟩) .nil) ⟨69,11,69,16⟩ ⟨69,11,69,81⟩) [] ⟨69,4,69,81⟩)
    .nil))))
abbrev d_told : FD := ⟨"told", s_told, b_told, ["row"], ["row", "common", "one", "first"], false⟩
abbrev s_bracket : Stmt := topS 24
def b_bracket : ISs :=
    (.cons (.asg (.tup (.cons (.name 3 "a" ⟨71,4,71,5⟩) (.cons (.name 4 "b" ⟨71,7,71,8⟩) (.cons (.name 5 "c" ⟨71,10,71,11⟩) .nil))) 0 ⟨71,4,71,11⟩) (.var 0 "one" ⟨71,14,71,17⟩) [] false ⟨71,4,71,17⟩)
    (.cons (.asg (.tup (.cons (.name 6 "d" ⟨72,4,72,5⟩) (.cons (.name 7 "e" ⟨72,7,72,8⟩) (.cons (.name 8 "f" ⟨72,10,72,11⟩) .nil))) 0 ⟨72,4,72,11⟩) (.var 1 "two" ⟨72,14,72,17⟩) [] false ⟨72,4,72,17⟩)
    (.cons (.asg (.tup (.cons (.name 9 "g" ⟨73,4,73,5⟩) (.cons (.name 10 "h" ⟨73,7,73,8⟩) (.cons (.name 11 "i" ⟨73,10,73,11⟩) .nil))) 0 ⟨73,4,73,11⟩) (.var 2 "three" ⟨73,14,73,19⟩) [] false ⟨73,4,73,19⟩)
    (.cons (.ret (.bin (.bin (.bin (.var 3 "a" ⟨74,11,74,12⟩) .Mult (.bin (.bin (.var 7 "e" ⟨74,16,74,17⟩) .Mult (.var 11 "i" ⟨74,20,74,21⟩) ⟨74,16,74,21⟩) .Sub (.bin (.var 8 "f" ⟨74,24,74,25⟩) .Mult (.var 10 "h" ⟨74,28,74,29⟩) ⟨74,24,74,29⟩) ⟨74,16,74,29⟩) ⟨74,11,74,30⟩) .Add (.bin (.var 4 "b" ⟨74,33,74,34⟩) .Mult (.bin (.bin (.var 8 "f" ⟨74,38,74,39⟩) .Mult (.var 9 "g" ⟨74,42,74,43⟩) ⟨74,38,74,43⟩) .Sub (.bin (.var 6 "d" ⟨74,46,74,47⟩) .Mult (.var 11 "i" ⟨74,50,74,51⟩) ⟨74,46,74,51⟩) ⟨74,38,74,51⟩) ⟨74,33,74,52⟩) ⟨74,11,74,52⟩) .Add (.bin (.var 5 "c" ⟨74,55,74,56⟩) .Mult (.bin (.bin (.var 6 "d" ⟨74,60,74,61⟩) .Mult (.var 10 "h" ⟨74,64,74,65⟩) ⟨74,60,74,65⟩) .Sub (.bin (.var 7 "e" ⟨74,68,74,69⟩) .Mult (.var 9 "g" ⟨74,72,74,73⟩) ⟨74,68,74,73⟩) ⟨74,60,74,73⟩) ⟨74,55,74,74⟩) ⟨74,11,74,74⟩) [] ⟨74,4,74,74⟩)
    .nil))))
abbrev d_bracket : FD := ⟨"bracket", s_bracket, b_bracket, ["one", "two", "three"], ["one", "two", "three", "a", "b", "c", "d", "e", "f", "g", "h", "i"], false⟩
abbrev s_terms : Stmt := topS 26
def b_terms : ISs :=
    (.cons (.asg (.tup (.cons (.name 1 "x" ⟨77,4,77,5⟩) (.cons (.name 2 "y" ⟨77,7,77,8⟩) .nil)) 0 ⟨77,4,77,8⟩) (.var 0 "place" ⟨77,11,77,16⟩) [] false ⟨77,4,77,16⟩)
    (.cons (.ret (.tup (.cons (.call "mul" (.cons (.var 1 "x" ⟨78,16,78,17⟩) (.cons (.var 1 "x" ⟨78,19,78,20⟩) .nil)) ⟨78,12,78,15⟩ ⟨78,12,78,21⟩) (.cons (.call "mul" (.cons (.var 1 "x" ⟨78,27,78,28⟩) (.cons (.var 2 "y" ⟨78,30,78,31⟩) .nil)) ⟨78,23,78,26⟩ ⟨78,23,78,32⟩) (.cons (.call "mul" (.cons (.var 2 "y" ⟨78,38,78,39⟩) (.cons (.var 2 "y" ⟨78,41,78,42⟩) .nil)) ⟨78,34,78,37⟩ ⟨78,34,78,43⟩) (.cons (.var 1 "x" ⟨78,45,78,46⟩) (.cons (.var 2 "y" ⟨78,48,78,49⟩) (.cons (.tup (.cons (.cst (.int 1) 0 ⟨78,52,78,53⟩) (.cons (.cst (.int 1) 0 ⟨78,55,78,56⟩) .nil)) 0 ⟨78,51,78,57⟩) .nil)))))) 0 ⟨78,11,78,58⟩) [] ⟨78,4,78,58⟩)
    .nil))
abbrev d_terms : FD := ⟨"terms", s_terms, b_terms, ["place"], ["place", "x", "y"], false⟩
abbrev s_worth : Stmt := topS 27
def b_worth : ISs :=
    (.cons (.ret (.call "total" (.cons (.lc (.call "mul" (.cons (.tup (.cons (.var 2 "a" ⟨80,23,80,24⟩) (.cons (.cst (.int 1) 0 ⟨80,26,80,27⟩) .nil)) 0 ⟨80,22,80,28⟩) (.cons (.var 3 "b" ⟨80,30,80,31⟩) .nil)) ⟨80,18,80,21⟩ ⟨80,18,80,32⟩) (.tup (.cons (.name 2 "a" ⟨80,37,80,38⟩) (.cons (.name 3 "b" ⟨80,40,80,41⟩) .nil)) 0 ⟨80,37,80,41⟩) (.zip (.var 0 "conic" ⟨80,49,80,54⟩) (.call "terms" (.cons (.var 1 "place" ⟨80,62,80,67⟩) .nil) ⟨80,56,80,61⟩ ⟨80,56,80,68⟩) ⟨80,45,80,48⟩ ⟨80,45,80,69⟩) .none { kind := .function, names := [(".0", .local), ("a", .local), ("b", .local), ("mul", .globalImplicit)], isGenerator := false, isCoroutine := false, more := [] } [("a", 2), ("b", 3)] ⟨80,17,80,70⟩) .nil) ⟨80,11,80,16⟩ ⟨80,11,80,71⟩) [] ⟨80,4,80,71⟩)
    .nil)
abbrev d_worth : FD := ⟨"worth", s_worth, b_worth, ["conic", "place"], ["conic", "place", "a", "b"], false⟩
abbrev s_is_of : Stmt := topS 28
def b_is_of : ISs :=
    (.cons (.ret (.cmp (.call "worth" (.cons (.var 0 "conic" ⟨82,17,82,22⟩) (.cons (.var 1 "place" ⟨82,24,82,29⟩) .nil)) ⟨82,11,82,16⟩ ⟨82,11,82,30⟩) .Eq (.tup (.cons (.cst (.int 0) 0 ⟨82,35,82,36⟩) (.cons (.cst (.int 1) 0 ⟨82,38,82,39⟩) .nil)) 0 ⟨82,34,82,40⟩) ⟨82,11,82,40⟩) [] ⟨82,4,82,40⟩)
    .nil)
abbrev d_is_of : FD := ⟨"is_of", s_is_of, b_is_of, ["conic", "place"], ["conic", "place"], false⟩
abbrev s_table : Stmt := topS 29
def b_table : ISs :=
    (.cons (.asg (.tup (.cons (.name 1 "a" ⟨84,4,84,5⟩) (.cons (.name 2 "b" ⟨84,7,84,8⟩) (.cons (.name 3 "c" ⟨84,10,84,11⟩) (.cons (.name 4 "d" ⟨84,13,84,14⟩) (.cons (.name 5 "e" ⟨84,16,84,17⟩) (.cons (.name 6 "f" ⟨84,19,84,20⟩) .nil)))))) 0 ⟨84,4,84,20⟩) (.var 0 "conic" ⟨84,23,84,28⟩) [] false ⟨84,4,84,28⟩)
    (.cons (.ret (.tup (.cons (.tup (.cons (.bin (.cst (.int 2) 0 ⟨85,13,85,14⟩) .Mult (.var 1 "a" ⟨85,17,85,18⟩) ⟨85,13,85,18⟩) (.cons (.var 2 "b" ⟨85,20,85,21⟩) (.cons (.var 4 "d" ⟨85,23,85,24⟩) .nil))) 0 ⟨85,12,85,25⟩) (.cons (.tup (.cons (.var 2 "b" ⟨85,28,85,29⟩) (.cons (.bin (.cst (.int 2) 0 ⟨85,31,85,32⟩) .Mult (.var 3 "c" ⟨85,35,85,36⟩) ⟨85,31,85,36⟩) (.cons (.var 5 "e" ⟨85,38,85,39⟩) .nil))) 0 ⟨85,27,85,40⟩) (.cons (.tup (.cons (.var 4 "d" ⟨85,43,85,44⟩) (.cons (.var 5 "e" ⟨85,46,85,47⟩) (.cons (.bin (.cst (.int 2) 0 ⟨85,49,85,50⟩) .Mult (.var 6 "f" ⟨85,53,85,54⟩) ⟨85,49,85,54⟩) .nil))) 0 ⟨85,42,85,55⟩) .nil))) 0 ⟨85,11,85,56⟩) [] ⟨85,4,85,56⟩)
    .nil))
abbrev d_table : FD := ⟨"table", s_table, b_table, ["conic"], ["conic", "a", "b", "c", "d", "e", "f"], false⟩
abbrev s_great_number : Stmt := topS 30
def b_great_number : ISs :=
    (.cons (.asg (.tup (.cons (.name 1 "one" ⟨87,4,87,7⟩) (.cons (.name 2 "two" ⟨87,9,87,12⟩) (.cons (.name 3 "three" ⟨87,14,87,19⟩) .nil))) 0 ⟨87,4,87,19⟩) (.call "table" (.cons (.var 0 "conic" ⟨87,28,87,33⟩) .nil) ⟨87,22,87,27⟩ ⟨87,22,87,34⟩) [] false ⟨87,4,87,34⟩)
    (.cons (.ret (.call "bracket" (.cons (.var 1 "one" ⟨88,19,88,22⟩) (.cons (.var 2 "two" ⟨88,24,88,27⟩) (.cons (.var 3 "three" ⟨88,29,88,34⟩) .nil))) ⟨88,11,88,18⟩ ⟨88,11,88,35⟩) [] ⟨88,4,88,35⟩)
    .nil))
abbrev d_great_number : FD := ⟨"great_number", s_great_number, b_great_number, ["conic"], ["conic", "one", "two", "three"], false⟩
abbrev s_small_number : Stmt := topS 31
def b_small_number : ISs :=
    (.cons (.ret (.bin (.bin (.bin (.cst (.int 4) 0 ⟨90,11,90,12⟩) .Mult (.idx (.var 0 "conic" ⟨90,15,90,20⟩) (.cst (.int 0) 0 ⟨90,21,90,22⟩) ⟨90,15,90,23⟩) ⟨90,11,90,23⟩) .Mult (.idx (.var 0 "conic" ⟨90,26,90,31⟩) (.cst (.int 2) 0 ⟨90,32,90,33⟩) ⟨90,26,90,34⟩) ⟨90,11,90,34⟩) .Sub (.bin (.idx (.var 0 "conic" ⟨90,37,90,42⟩) (.cst (.int 1) 0 ⟨90,43,90,44⟩) ⟨90,37,90,45⟩) .Mult (.idx (.var 0 "conic" ⟨90,48,90,53⟩) (.cst (.int 1) 0 ⟨90,54,90,55⟩) ⟨90,48,90,56⟩) ⟨90,37,90,56⟩) ⟨90,11,90,56⟩) [] ⟨90,4,90,56⟩)
    .nil)
abbrev d_small_number : FD := ⟨"small_number", s_small_number, b_small_number, ["conic"], ["conic"], false⟩
abbrev s_kind_of : Stmt := topS 32
def b_kind_of : ISs :=
    (.cons (.asg (.tup (.cons (.name 1 "a" ⟨92,4,92,5⟩) (.cons (.name 2 "_" ⟨92,7,92,8⟩) (.cons (.name 3 "c" ⟨92,10,92,11⟩) (.cons (.name 4 "d" ⟨92,13,92,14⟩) (.cons (.name 5 "e" ⟨92,16,92,17⟩) (.cons (.name 6 "f" ⟨92,19,92,20⟩) .nil)))))) 0 ⟨92,4,92,20⟩) (.var 0 "conic" ⟨92,23,92,28⟩) [] false ⟨92,4,92,28⟩)
    (.cons (.par [(7, "great", ⟨93,4,93,9⟩), (8, "small", ⟨93,11,93,16⟩)] 0 ⟨93,4,93,16⟩ (.cons (.call "great_number" (.cons (.var 0 "conic" ⟨93,33,93,38⟩) .nil) ⟨93,20,93,32⟩ ⟨93,20,93,39⟩) (.cons (.call "small_number" (.cons (.var 0 "conic" ⟨93,54,93,59⟩) .nil) ⟨93,41,93,53⟩ ⟨93,41,93,60⟩) .nil)) 0 ⟨93,19,93,61⟩ [] ⟨93,4,93,61⟩)
    (.cons (.ite (.cmp (.var 7 "great" ⟨94,7,94,12⟩) .NotEq (.cst (.int 0) 0 ⟨94,16,94,17⟩) ⟨94,7,94,17⟩)
    (.cons (.ite (.cmp (.var 8 "small" ⟨95,11,95,16⟩) .Eq (.cst (.int 0) 0 ⟨95,20,95,21⟩) ⟨95,11,95,21⟩)
    (.cons (.ret (.cst (.str "parabola") 0 ⟨96,19,96,29⟩) [] ⟨96,12,96,29⟩)
    .nil)
    .nil [] ⟨95,8,96,29⟩)
    (.cons (.ite (.cmp (.var 8 "small" ⟨97,11,97,16⟩) .Lt (.cst (.int 0) 0 ⟨97,19,97,20⟩) ⟨97,11,97,20⟩)
    (.cons (.ret (.cst (.str "hyperbola") 0 ⟨98,19,98,30⟩) [] ⟨98,12,98,30⟩)
    .nil)
    .nil [] ⟨97,8,98,30⟩)
    (.cons (.ret (.ifx (.cmp (.bin (.bin (.var 1 "a" ⟨99,29,99,30⟩) .Add (.var 3 "c" ⟨99,33,99,34⟩) ⟨99,29,99,34⟩) .Mult (.var 7 "great" ⟨99,38,99,43⟩) ⟨99,28,99,43⟩) .Lt (.cst (.int 0) 0 ⟨99,46,99,47⟩) ⟨99,28,99,47⟩) (.cst (.str "ellipse") 0 ⟨99,15,99,24⟩) (.cst (.str "no places") 0 ⟨99,53,99,64⟩) ⟨99,15,99,64⟩) [] ⟨99,8,99,64⟩)
    .nil)))
    .nil [] ⟨94,4,99,64⟩)
    (.cons (.ite (.cmp (.var 8 "small" ⟨100,7,100,12⟩) .NotEq (.cst (.int 0) 0 ⟨100,16,100,17⟩) ⟨100,7,100,17⟩)
    (.cons (.ret (.ifx (.cmp (.var 8 "small" ⟨101,30,101,35⟩) .Gt (.cst (.int 0) 0 ⟨101,38,101,39⟩) ⟨101,30,101,39⟩) (.cst (.str "one place") 0 ⟨101,15,101,26⟩) (.cst (.str "two lines") 0 ⟨101,45,101,56⟩) ⟨101,15,101,56⟩) [] ⟨101,8,101,56⟩)
    .nil)
    .nil [] ⟨100,4,101,56⟩)
    (.cons (.par [(9, "one", ⟨102,4,102,7⟩), (10, "other", ⟨102,9,102,14⟩)] 0 ⟨102,4,102,14⟩ (.cons (.bin (.bin (.var 4 "d" ⟨102,18,102,19⟩) .Mult (.var 4 "d" ⟨102,22,102,23⟩) ⟨102,18,102,23⟩) .Sub (.bin (.bin (.cst (.int 4) 0 ⟨102,26,102,27⟩) .Mult (.var 1 "a" ⟨102,30,102,31⟩) ⟨102,26,102,31⟩) .Mult (.var 6 "f" ⟨102,34,102,35⟩) ⟨102,26,102,35⟩) ⟨102,18,102,35⟩) (.cons (.bin (.bin (.var 5 "e" ⟨102,37,102,38⟩) .Mult (.var 5 "e" ⟨102,41,102,42⟩) ⟨102,37,102,42⟩) .Sub (.bin (.bin (.cst (.int 4) 0 ⟨102,45,102,46⟩) .Mult (.var 3 "c" ⟨102,49,102,50⟩) ⟨102,45,102,50⟩) .Mult (.var 6 "f" ⟨102,53,102,54⟩) ⟨102,45,102,54⟩) ⟨102,37,102,54⟩) .nil)) 0 ⟨102,17,102,55⟩ [] ⟨102,4,102,55⟩)
    (.cons (.ite (.cmp (.bcall "max" (.cons (.var 9 "one" ⟨103,11,103,14⟩) (.cons (.var 10 "other" ⟨103,16,103,21⟩) .nil)) ⟨103,7,103,10⟩ ⟨103,7,103,22⟩) .Gt (.cst (.int 0) 0 ⟨103,25,103,26⟩) ⟨103,7,103,26⟩)
    (.cons (.ret (.cst (.str "level lines") 0 ⟨104,15,104,28⟩) [] ⟨104,8,104,28⟩)
    .nil)
    .nil [] ⟨103,4,104,28⟩)
    (.cons (.ret (.ifx (.boolop .And (.cons (.cmp (.var 9 "one" ⟨105,28,105,31⟩) .Eq (.cst (.int 0) 0 ⟨105,35,105,36⟩) ⟨105,28,105,36⟩) (.cons (.cmp (.var 10 "other" ⟨105,41,105,46⟩) .Eq (.cst (.int 0) 0 ⟨105,50,105,51⟩) ⟨105,41,105,51⟩) .nil)) ⟨105,28,105,51⟩) (.cst (.str "double line") 0 ⟨105,11,105,24⟩) (.cst (.str "no places") 0 ⟨105,57,105,68⟩) ⟨105,11,105,68⟩) [] ⟨105,4,105,68⟩)
    .nil)))))))
abbrev d_kind_of : FD := ⟨"kind_of", s_kind_of, b_kind_of, ["conic"], ["conic", "a", "_", "c", "d", "e", "f", "great", "small", "one", "other"], false⟩
abbrev s_polar : Stmt := topS 33
def b_polar : ISs :=
    (.cons (.ret (.call "told" (.cons (.bcall "tuple" (.cons (.lc (.bcall "sum" (.cons (.lc (.bin (.var 3 "a" ⟨107,28,107,29⟩) .Mult (.var 4 "x" ⟨107,32,107,33⟩) ⟨107,28,107,33⟩) (.tup (.cons (.name 3 "a" ⟨107,38,107,39⟩) (.cons (.name 4 "x" ⟨107,41,107,42⟩) .nil)) 0 ⟨107,38,107,42⟩) (.zip (.var 2 "row" ⟨107,50,107,53⟩) (.var 1 "place" ⟨107,55,107,60⟩) ⟨107,46,107,49⟩ ⟨107,46,107,61⟩) .none { kind := .function, names := [(".0", .local), ("a", .local), ("x", .local)], isGenerator := false, isCoroutine := false, more := [] } [("a", 3), ("x", 4)] ⟨107,27,107,62⟩) .nil) ⟨107,23,107,26⟩ ⟨107,23,107,63⟩) (.name 2 "row" ⟨107,68,107,71⟩) (.seq (.call "table" (.cons (.var 0 "conic" ⟨107,81,107,86⟩) .nil) ⟨107,75,107,80⟩ ⟨107,75,107,87⟩)) .none { kind := .function, names := [(".0", .local), ("row", .local), ("sum", .globalImplicit), ("zip", .globalImplicit), ("place", .free)], isGenerator := false, isCoroutine := false, more := [] } [("row", 2)] ⟨107,22,107,88⟩) .nil) ⟨107,16,107,21⟩ ⟨107,16,107,89⟩) .nil) ⟨107,11,107,15⟩ ⟨107,11,107,90⟩) [] ⟨107,4,107,90⟩)
    .nil)
abbrev d_polar : FD := ⟨"polar", s_polar, b_polar, ["conic", "place"], ["conic", "place", "row", "a", "x"], false⟩
abbrev s_projective : Stmt := topS 34
def b_projective : ISs :=
    (.cons (.ret (.call "told_integers" (.cons (.lst (.cons (.idx (.var 0 "place" ⟨109,26,109,31⟩) (.cst (.int 0) 0 ⟨109,32,109,33⟩) ⟨109,26,109,34⟩) (.cons (.idx (.var 0 "place" ⟨109,36,109,41⟩) (.cst (.int 1) 0 ⟨109,42,109,43⟩) ⟨109,36,109,44⟩) (.cons (.tup (.cons (.cst (.int 1) 0 ⟨109,47,109,48⟩) (.cons (.cst (.int 1) 0 ⟨109,50,109,51⟩) .nil)) 0 ⟨109,46,109,52⟩) .nil))) ⟨109,25,109,53⟩) .nil) ⟨109,11,109,24⟩ ⟨109,11,109,54⟩) [] ⟨109,4,109,54⟩)
    .nil)
abbrev d_projective : FD := ⟨"projective", s_projective, b_projective, ["place"], ["place"], false⟩
abbrev s_tangent : Stmt := topS 35
def b_tangent : ISs :=
    (.cons (.ret (.call "polar" (.cons (.var 0 "conic" ⟨111,17,111,22⟩) (.cons (.call "projective" (.cons (.var 1 "place" ⟨111,35,111,40⟩) .nil) ⟨111,24,111,34⟩ ⟨111,24,111,41⟩) .nil)) ⟨111,11,111,16⟩ ⟨111,11,111,42⟩) [] ⟨111,4,111,42⟩)
    .nil)
abbrev d_tangent : FD := ⟨"tangent", s_tangent, b_tangent, ["conic", "place"], ["conic", "place"], false⟩
abbrev s_small_table : Stmt := topS 37
def b_small_table : ISs :=
    (.cons (.asg (.tup (.cons (.tup (.cons (.name 1 "a" ⟨114,5,114,6⟩) (.cons (.name 2 "b" ⟨114,8,114,9⟩) (.cons (.name 3 "d" ⟨114,11,114,12⟩) .nil))) 0 ⟨114,4,114,13⟩) (.cons (.tup (.cons (.name 4 "_" ⟨114,16,114,17⟩) (.cons (.name 5 "c" ⟨114,19,114,20⟩) (.cons (.name 6 "e" ⟨114,22,114,23⟩) .nil))) 0 ⟨114,15,114,24⟩) (.cons (.tup (.cons (.name 4 "_" ⟨114,27,114,28⟩) (.cons (.name 4 "_" ⟨114,30,114,31⟩) (.cons (.name 7 "f" ⟨114,33,114,34⟩) .nil))) 0 ⟨114,26,114,35⟩) .nil))) 0 ⟨114,4,114,35⟩) (.call "table" (.cons (.var 0 "conic" ⟨114,44,114,49⟩) .nil) ⟨114,38,114,43⟩ ⟨114,38,114,50⟩) [] false ⟨114,4,114,50⟩)
    (.cons (.ret (.tup (.cons (.tup (.cons (.bin (.bin (.var 5 "c" ⟨115,13,115,14⟩) .Mult (.var 7 "f" ⟨115,17,115,18⟩) ⟨115,13,115,18⟩) .Sub (.bin (.var 6 "e" ⟨115,21,115,22⟩) .Mult (.var 6 "e" ⟨115,25,115,26⟩) ⟨115,21,115,26⟩) ⟨115,13,115,26⟩) (.cons (.bin (.bin (.var 3 "d" ⟨115,28,115,29⟩) .Mult (.var 6 "e" ⟨115,32,115,33⟩) ⟨115,28,115,33⟩) .Sub (.bin (.var 2 "b" ⟨115,36,115,37⟩) .Mult (.var 7 "f" ⟨115,40,115,41⟩) ⟨115,36,115,41⟩) ⟨115,28,115,41⟩) (.cons (.bin (.bin (.var 2 "b" ⟨115,43,115,44⟩) .Mult (.var 6 "e" ⟨115,47,115,48⟩) ⟨115,43,115,48⟩) .Sub (.bin (.var 5 "c" ⟨115,51,115,52⟩) .Mult (.var 3 "d" ⟨115,55,115,56⟩) ⟨115,51,115,56⟩) ⟨115,43,115,56⟩) .nil))) 0 ⟨115,12,115,57⟩) (.cons (.tup (.cons (.bin (.bin (.var 3 "d" ⟨115,60,115,61⟩) .Mult (.var 6 "e" ⟨115,64,115,65⟩) ⟨115,60,115,65⟩) .Sub (.bin (.var 2 "b" ⟨115,68,115,69⟩) .Mult (.var 7 "f" ⟨115,72,115,73⟩) ⟨115,68,115,73⟩) ⟨115,60,115,73⟩) (.cons (.bin (.bin (.var 1 "a" ⟨115,75,115,76⟩) .Mult (.var 7 "f" ⟨115,79,115,80⟩) ⟨115,75,115,80⟩) .Sub (.bin (.var 3 "d" ⟨115,83,115,84⟩) .Mult (.var 3 "d" ⟨115,87,115,88⟩) ⟨115,83,115,88⟩) ⟨115,75,115,88⟩) (.cons (.bin (.bin (.var 2 "b" ⟨115,90,115,91⟩) .Mult (.var 3 "d" ⟨115,94,115,95⟩) ⟨115,90,115,95⟩) .Sub (.bin (.var 1 "a" ⟨115,98,115,99⟩) .Mult (.var 6 "e" ⟨115,102,115,103⟩) ⟨115,98,115,103⟩) ⟨115,90,115,103⟩) .nil))) 0 ⟨115,59,115,104⟩) (.cons (.tup (.cons (.bin (.bin (.var 2 "b" ⟨115,107,115,108⟩) .Mult (.var 6 "e" ⟨115,111,115,112⟩) ⟨115,107,115,112⟩) .Sub (.bin (.var 5 "c" ⟨115,115,115,116⟩) .Mult (.var 3 "d" ⟨115,119,115,120⟩) ⟨115,115,115,120⟩) ⟨115,107,115,120⟩) (.cons (.bin (.bin (.var 2 "b" ⟨115,122,115,123⟩) .Mult (.var 3 "d" ⟨115,126,115,127⟩) ⟨115,122,115,127⟩) .Sub (.bin (.var 1 "a" ⟨115,130,115,131⟩) .Mult (.var 6 "e" ⟨115,134,115,135⟩) ⟨115,130,115,135⟩) ⟨115,122,115,135⟩) (.cons (.bin (.bin (.var 1 "a" ⟨115,137,115,138⟩) .Mult (.var 5 "c" ⟨115,141,115,142⟩) ⟨115,137,115,142⟩) .Sub (.bin (.var 2 "b" ⟨115,145,115,146⟩) .Mult (.var 2 "b" ⟨115,149,115,150⟩) ⟨115,145,115,150⟩) ⟨115,137,115,150⟩) .nil))) 0 ⟨115,106,115,151⟩) .nil))) 0 ⟨115,11,115,152⟩) [] ⟨115,4,115,152⟩)
    .nil))
abbrev d_small_table : FD := ⟨"small_table", s_small_table, b_small_table, ["conic"], ["conic", "a", "b", "d", "_", "c", "e", "f"], false⟩
abbrev s_dual : Stmt := topS 38
def b_dual : ISs :=
    (.cons (.asg (.tup (.cons (.tup (.cons (.name 1 "a" ⟨117,5,117,6⟩) (.cons (.name 2 "b" ⟨117,8,117,9⟩) (.cons (.name 3 "d" ⟨117,11,117,12⟩) .nil))) 0 ⟨117,4,117,13⟩) (.cons (.tup (.cons (.name 4 "_" ⟨117,16,117,17⟩) (.cons (.name 5 "c" ⟨117,19,117,20⟩) (.cons (.name 6 "e" ⟨117,22,117,23⟩) .nil))) 0 ⟨117,15,117,24⟩) (.cons (.tup (.cons (.name 4 "_" ⟨117,27,117,28⟩) (.cons (.name 4 "_" ⟨117,30,117,31⟩) (.cons (.name 7 "f" ⟨117,33,117,34⟩) .nil))) 0 ⟨117,26,117,35⟩) .nil))) 0 ⟨117,4,117,35⟩) (.call "small_table" (.cons (.var 0 "conic" ⟨117,50,117,55⟩) .nil) ⟨117,38,117,49⟩ ⟨117,38,117,56⟩) [] false ⟨117,4,117,56⟩)
    (.cons (.ret (.call "told" (.cons (.tup (.cons (.var 1 "a" ⟨118,17,118,18⟩) (.cons (.bin (.cst (.int 2) 0 ⟨118,20,118,21⟩) .Mult (.var 2 "b" ⟨118,24,118,25⟩) ⟨118,20,118,25⟩) (.cons (.var 5 "c" ⟨118,27,118,28⟩) (.cons (.bin (.cst (.int 2) 0 ⟨118,30,118,31⟩) .Mult (.var 3 "d" ⟨118,34,118,35⟩) ⟨118,30,118,35⟩) (.cons (.bin (.cst (.int 2) 0 ⟨118,37,118,38⟩) .Mult (.var 6 "e" ⟨118,41,118,42⟩) ⟨118,37,118,42⟩) (.cons (.var 7 "f" ⟨118,44,118,45⟩) .nil)))))) 0 ⟨118,16,118,46⟩) .nil) ⟨118,11,118,15⟩ ⟨118,11,118,47⟩) [] ⟨118,4,118,47⟩)
    .nil))
abbrev d_dual : FD := ⟨"dual", s_dual, b_dual, ["conic"], ["conic", "a", "b", "d", "_", "c", "e", "f"], false⟩
abbrev s_worth_at_duals : Stmt := topS 39
def b_worth_at_duals : ISs :=
    (.cons (.asg (.tup (.cons (.name 2 "a" ⟨120,4,120,5⟩) (.cons (.name 3 "b" ⟨120,7,120,8⟩) (.cons (.name 4 "c" ⟨120,10,120,11⟩) (.cons (.name 5 "d" ⟨120,13,120,14⟩) (.cons (.name 6 "e" ⟨120,16,120,17⟩) (.cons (.name 7 "f" ⟨120,19,120,20⟩) .nil)))))) 0 ⟨120,4,120,20⟩) (.var 0 "row" ⟨120,23,120,26⟩) [] false ⟨120,4,120,26⟩)
    (.cons (.asg (.tup (.cons (.name 8 "u" ⟨121,4,121,5⟩) (.cons (.name 9 "v" ⟨121,7,121,8⟩) (.cons (.name 10 "w" ⟨121,10,121,11⟩) .nil))) 0 ⟨121,4,121,11⟩) (.var 1 "line" ⟨121,14,121,18⟩) [] false ⟨121,4,121,18⟩)
    (.cons (.ret (.bin (.bin (.bin (.bin (.bin (.bin (.bin (.var 2 "a" ⟨122,11,122,12⟩) .Mult (.var 8 "u" ⟨122,15,122,16⟩) ⟨122,11,122,16⟩) .Mult (.var 8 "u" ⟨122,19,122,20⟩) ⟨122,11,122,20⟩) .Add (.bin (.bin (.var 3 "b" ⟨122,23,122,24⟩) .Mult (.var 8 "u" ⟨122,27,122,28⟩) ⟨122,23,122,28⟩) .Mult (.var 9 "v" ⟨122,31,122,32⟩) ⟨122,23,122,32⟩) ⟨122,11,122,32⟩) .Add (.bin (.bin (.var 4 "c" ⟨122,35,122,36⟩) .Mult (.var 9 "v" ⟨122,39,122,40⟩) ⟨122,35,122,40⟩) .Mult (.var 9 "v" ⟨122,43,122,44⟩) ⟨122,35,122,44⟩) ⟨122,11,122,44⟩) .Add (.bin (.bin (.var 5 "d" ⟨122,47,122,48⟩) .Mult (.var 8 "u" ⟨122,51,122,52⟩) ⟨122,47,122,52⟩) .Mult (.var 10 "w" ⟨122,55,122,56⟩) ⟨122,47,122,56⟩) ⟨122,11,122,56⟩) .Add (.bin (.bin (.var 6 "e" ⟨122,59,122,60⟩) .Mult (.var 9 "v" ⟨122,63,122,64⟩) ⟨122,59,122,64⟩) .Mult (.var 10 "w" ⟨122,67,122,68⟩) ⟨122,59,122,68⟩) ⟨122,11,122,68⟩) .Add (.bin (.bin (.var 7 "f" ⟨122,71,122,72⟩) .Mult (.var 10 "w" ⟨122,75,122,76⟩) ⟨122,71,122,76⟩) .Mult (.var 10 "w" ⟨122,79,122,80⟩) ⟨122,71,122,80⟩) ⟨122,11,122,80⟩) [] ⟨122,4,122,80⟩)
    .nil)))
abbrev d_worth_at_duals : FD := ⟨"worth_at_duals", s_worth_at_duals, b_worth_at_duals, ["row", "line"], ["row", "line", "a", "b", "c", "d", "e", "f", "u", "v", "w"], false⟩
abbrev s_is_tangent : Stmt := topS 41
def b_is_tangent : ISs :=
    (.cons (.ret (.cmp (.call "worth_at_duals" (.cons (.call "dual" (.cons (.var 0 "conic" ⟨125,31,125,36⟩) .nil) ⟨125,26,125,30⟩ ⟨125,26,125,37⟩) (.cons (.var 1 "line" ⟨125,39,125,43⟩) .nil)) ⟨125,11,125,25⟩ ⟨125,11,125,44⟩) .Eq (.cst (.int 0) 0 ⟨125,48,125,49⟩) ⟨125,11,125,49⟩) [] ⟨125,4,125,49⟩)
    .nil)
abbrev d_is_tangent : FD := ⟨"is_tangent", s_is_tangent, b_is_tangent, ["conic", "line"], ["conic", "line"], false⟩
abbrev s_conic_of : Stmt := topS 43
def b_conic_of : ISs :=
    (.cons (.asg (.tup (.cons (.name 3 "x" ⟨128,4,128,5⟩) (.cons (.name 4 "y" ⟨128,7,128,8⟩) .nil)) 0 ⟨128,4,128,8⟩) (.var 0 "focus" ⟨128,11,128,16⟩) [] false ⟨128,4,128,16⟩)
    (.cons (.asg (.tup (.cons (.name 5 "a" ⟨129,4,129,5⟩) (.cons (.name 6 "b" ⟨129,7,129,8⟩) (.cons (.name 7 "c" ⟨129,10,129,11⟩) .nil))) 0 ⟨129,4,129,11⟩) (.var 1 "rim" ⟨129,14,129,17⟩) [] false ⟨129,4,129,17⟩)
    (.cons (.asg (.name 8 "share" ⟨130,4,130,9⟩) (.call "div" (.cons (.var 2 "s" ⟨130,16,130,17⟩) (.cons (.tup (.cons (.bin (.bin (.var 5 "a" ⟨130,20,130,21⟩) .Mult (.var 5 "a" ⟨130,24,130,25⟩) ⟨130,20,130,25⟩) .Add (.bin (.var 6 "b" ⟨130,28,130,29⟩) .Mult (.var 6 "b" ⟨130,32,130,33⟩) ⟨130,28,130,33⟩) ⟨130,20,130,33⟩) (.cons (.cst (.int 1) 0 ⟨130,35,130,36⟩) .nil)) 0 ⟨130,19,130,37⟩) .nil)) ⟨130,12,130,15⟩ ⟨130,12,130,38⟩) [] false ⟨130,4,130,38⟩)
    (.cons (.ret (.call "told_integers" (.cons (.lst (.cons (.call "sub" (.cons (.tup (.cons (.cst (.int 1) 0 ⟨131,31,131,32⟩) (.cons (.cst (.int 1) 0 ⟨131,34,131,35⟩) .nil)) 0 ⟨131,30,131,36⟩) (.cons (.call "mul" (.cons (.var 8 "share" ⟨131,42,131,47⟩) (.cons (.tup (.cons (.bin (.var 5 "a" ⟨131,50,131,51⟩) .Mult (.var 5 "a" ⟨131,54,131,55⟩) ⟨131,50,131,55⟩) (.cons (.cst (.int 1) 0 ⟨131,57,131,58⟩) .nil)) 0 ⟨131,49,131,59⟩) .nil)) ⟨131,38,131,41⟩ ⟨131,38,131,60⟩) .nil)) ⟨131,26,131,29⟩ ⟨131,26,131,61⟩) (.cons (.call "mul" (.cons (.tup (.cons (.neg (.cst (.int 2) 0 ⟨131,69,131,70⟩) ⟨131,68,131,70⟩) (.cons (.cst (.int 1) 0 ⟨131,72,131,73⟩) .nil)) 0 ⟨131,67,131,74⟩) (.cons (.call "mul" (.cons (.var 8 "share" ⟨131,80,131,85⟩) (.cons (.tup (.cons (.bin (.var 5 "a" ⟨131,88,131,89⟩) .Mult (.var 6 "b" ⟨131,92,131,93⟩) ⟨131,88,131,93⟩) (.cons (.cst (.int 1) 0 ⟨131,95,131,96⟩) .nil)) 0 ⟨131,87,131,97⟩) .nil)) ⟨131,76,131,79⟩ ⟨131,76,131,98⟩) .nil)) ⟨131,63,131,66⟩ ⟨131,63,131,99⟩) (.cons (.call "sub" (.cons (.tup (.cons (.cst (.int 1) 0 ⟨131,106,131,107⟩) (.cons (.cst (.int 1) 0 ⟨131,109,131,110⟩) .nil)) 0 ⟨131,105,131,111⟩) (.cons (.call "mul" (.cons (.var 8 "share" ⟨131,117,131,122⟩) (.cons (.tup (.cons (.bin (.var 6 "b" ⟨131,125,131,126⟩) .Mult (.var 6 "b" ⟨131,129,131,130⟩) ⟨131,125,131,130⟩) (.cons (.cst (.int 1) 0 ⟨131,132,131,133⟩) .nil)) 0 ⟨131,124,131,134⟩) .nil)) ⟨131,113,131,116⟩ ⟨131,113,131,135⟩) .nil)) ⟨131,101,131,104⟩ ⟨131,101,131,136⟩) (.cons (.call "mul" (.cons (.tup (.cons (.neg (.cst (.int 2) 0 ⟨131,144,131,145⟩) ⟨131,143,131,145⟩) (.cons (.cst (.int 1) 0 ⟨131,147,131,148⟩) .nil)) 0 ⟨131,142,131,149⟩) (.cons (.call "add" (.cons (.var 3 "x" ⟨131,155,131,156⟩) (.cons (.call "mul" (.cons (.var 8 "share" ⟨131,162,131,167⟩) (.cons (.tup (.cons (.bin (.var 5 "a" ⟨131,170,131,171⟩) .Mult (.var 7 "c" ⟨131,174,131,175⟩) ⟨131,170,131,175⟩) (.cons (.cst (.int 1) 0 ⟨131,177,131,178⟩) .nil)) 0 ⟨131,169,131,179⟩) .nil)) ⟨131,158,131,161⟩ ⟨131,158,131,180⟩) .nil)) ⟨131,151,131,154⟩ ⟨131,151,131,181⟩) .nil)) ⟨131,138,131,141⟩ ⟨131,138,131,182⟩) (.cons (.call "mul" (.cons (.tup (.cons (.neg (.cst (.int 2) 0 ⟨131,190,131,191⟩) ⟨131,189,131,191⟩) (.cons (.cst (.int 1) 0 ⟨131,193,131,194⟩) .nil)) 0 ⟨131,188,131,195⟩) (.cons (.call "add" (.cons (.var 4 "y" ⟨131,201,131,202⟩) (.cons (.call "mul" (.cons (.var 8 "share" ⟨131,208,131,213⟩) (.cons (.tup (.cons (.bin (.var 6 "b" ⟨131,216,131,217⟩) .Mult (.var 7 "c" ⟨131,220,131,221⟩) ⟨131,216,131,221⟩) (.cons (.cst (.int 1) 0 ⟨131,223,131,224⟩) .nil)) 0 ⟨131,215,131,225⟩) .nil)) ⟨131,204,131,207⟩ ⟨131,204,131,226⟩) .nil)) ⟨131,197,131,200⟩ ⟨131,197,131,227⟩) .nil)) ⟨131,184,131,187⟩ ⟨131,184,131,228⟩) (.cons (.call "sub" (.cons (.call "add" (.cons (.call "mul" (.cons (.var 3 "x" ⟨131,242,131,243⟩) (.cons (.var 3 "x" ⟨131,245,131,246⟩) .nil)) ⟨131,238,131,241⟩ ⟨131,238,131,247⟩) (.cons (.call "mul" (.cons (.var 4 "y" ⟨131,253,131,254⟩) (.cons (.var 4 "y" ⟨131,256,131,257⟩) .nil)) ⟨131,249,131,252⟩ ⟨131,249,131,258⟩) .nil)) ⟨131,234,131,237⟩ ⟨131,234,131,259⟩) (.cons (.call "mul" (.cons (.var 8 "share" ⟨131,265,131,270⟩) (.cons (.tup (.cons (.bin (.var 7 "c" ⟨131,273,131,274⟩) .Mult (.var 7 "c" ⟨131,277,131,278⟩) ⟨131,273,131,278⟩) (.cons (.cst (.int 1) 0 ⟨131,280,131,281⟩) .nil)) 0 ⟨131,272,131,282⟩) .nil)) ⟨131,261,131,264⟩ ⟨131,261,131,283⟩) .nil)) ⟨131,230,131,233⟩ ⟨131,230,131,284⟩) .nil)))))) ⟨131,25,131,285⟩) .nil) ⟨131,11,131,24⟩ ⟨131,11,131,286⟩) [] ⟨131,4,131,286⟩)
    .nil))))
abbrev d_conic_of : FD := ⟨"conic_of", s_conic_of, b_conic_of, ["focus", "rim", "s"], ["focus", "rim", "s", "x", "y", "a", "b", "c", "share"], false⟩
abbrev s_is_focus : Stmt := topS 44
def b_is_focus : ISs :=
    (.cons (.asg (.tup (.cons (.name 2 "a" ⟨133,4,133,5⟩) (.cons (.name 3 "b" ⟨133,7,133,8⟩) (.cons (.name 4 "c" ⟨133,10,133,11⟩) (.cons (.name 5 "d" ⟨133,13,133,14⟩) (.cons (.name 6 "e" ⟨133,16,133,17⟩) (.cons (.name 7 "f" ⟨133,19,133,20⟩) .nil)))))) 0 ⟨133,4,133,20⟩) (.lc (.tup (.cons (.var 13 "number" ⟨133,25,133,31⟩) (.cons (.cst (.int 1) 0 ⟨133,33,133,34⟩) .nil)) 0 ⟨133,24,133,35⟩) (.name 13 "number" ⟨133,40,133,46⟩) (.seq (.call "dual" (.cons (.var 0 "conic" ⟨133,55,133,60⟩) .nil) ⟨133,50,133,54⟩ ⟨133,50,133,61⟩)) .none { kind := .function, names := [(".0", .local), ("number", .local)], isGenerator := false, isCoroutine := false, more := [] } [("number", 13)] ⟨133,23,133,62⟩) [] false ⟨133,4,133,62⟩)
    (.cons (.asg (.tup (.cons (.name 8 "x" ⟨134,4,134,5⟩) (.cons (.name 9 "y" ⟨134,7,134,8⟩) .nil)) 0 ⟨134,4,134,8⟩) (.var 1 "place" ⟨134,11,134,16⟩) [] false ⟨134,4,134,16⟩)
    (.cons (.asg (.name 10 "square_u" ⟨135,4,135,12⟩) (.call "add" (.cons (.call "sub" (.cons (.var 2 "a" ⟨135,23,135,24⟩) (.cons (.call "mul" (.cons (.var 5 "d" ⟨135,30,135,31⟩) (.cons (.var 8 "x" ⟨135,33,135,34⟩) .nil)) ⟨135,26,135,29⟩ ⟨135,26,135,35⟩) .nil)) ⟨135,19,135,22⟩ ⟨135,19,135,36⟩) (.cons (.call "mul" (.cons (.var 7 "f" ⟨135,42,135,43⟩) (.cons (.call "mul" (.cons (.var 8 "x" ⟨135,49,135,50⟩) (.cons (.var 8 "x" ⟨135,52,135,53⟩) .nil)) ⟨135,45,135,48⟩ ⟨135,45,135,54⟩) .nil)) ⟨135,38,135,41⟩ ⟨135,38,135,55⟩) .nil)) ⟨135,15,135,18⟩ ⟨135,15,135,56⟩) [] false ⟨135,4,135,56⟩)
    (.cons (.asg (.name 11 "square_v" ⟨136,4,136,12⟩) (.call "add" (.cons (.call "sub" (.cons (.var 4 "c" ⟨136,23,136,24⟩) (.cons (.call "mul" (.cons (.var 6 "e" ⟨136,30,136,31⟩) (.cons (.var 9 "y" ⟨136,33,136,34⟩) .nil)) ⟨136,26,136,29⟩ ⟨136,26,136,35⟩) .nil)) ⟨136,19,136,22⟩ ⟨136,19,136,36⟩) (.cons (.call "mul" (.cons (.var 7 "f" ⟨136,42,136,43⟩) (.cons (.call "mul" (.cons (.var 9 "y" ⟨136,49,136,50⟩) (.cons (.var 9 "y" ⟨136,52,136,53⟩) .nil)) ⟨136,45,136,48⟩ ⟨136,45,136,54⟩) .nil)) ⟨136,38,136,41⟩ ⟨136,38,136,55⟩) .nil)) ⟨136,15,136,18⟩ ⟨136,15,136,56⟩) [] false ⟨136,4,136,56⟩)
    (.cons (.asg (.name 12 "mixed" ⟨137,4,137,9⟩) (.call "add" (.cons (.call "sub" (.cons (.call "sub" (.cons (.var 3 "b" ⟨137,24,137,25⟩) (.cons (.call "mul" (.cons (.var 5 "d" ⟨137,31,137,32⟩) (.cons (.var 9 "y" ⟨137,34,137,35⟩) .nil)) ⟨137,27,137,30⟩ ⟨137,27,137,36⟩) .nil)) ⟨137,20,137,23⟩ ⟨137,20,137,37⟩) (.cons (.call "mul" (.cons (.var 6 "e" ⟨137,43,137,44⟩) (.cons (.var 8 "x" ⟨137,46,137,47⟩) .nil)) ⟨137,39,137,42⟩ ⟨137,39,137,48⟩) .nil)) ⟨137,16,137,19⟩ ⟨137,16,137,49⟩) (.cons (.call "mul" (.cons (.tup (.cons (.cst (.int 2) 0 ⟨137,56,137,57⟩) (.cons (.cst (.int 1) 0 ⟨137,59,137,60⟩) .nil)) 0 ⟨137,55,137,61⟩) (.cons (.call "mul" (.cons (.var 7 "f" ⟨137,67,137,68⟩) (.cons (.call "mul" (.cons (.var 8 "x" ⟨137,74,137,75⟩) (.cons (.var 9 "y" ⟨137,77,137,78⟩) .nil)) ⟨137,70,137,73⟩ ⟨137,70,137,79⟩) .nil)) ⟨137,63,137,66⟩ ⟨137,63,137,80⟩) .nil)) ⟨137,51,137,54⟩ ⟨137,51,137,81⟩) .nil)) ⟨137,12,137,15⟩ ⟨137,12,137,82⟩) [] false ⟨137,4,137,82⟩)
    (.cons (.ret (.boolop .And (.cons (.cmp (.var 10 "square_u" ⟨138,11,138,19⟩) .Eq (.var 11 "square_v" ⟨138,23,138,31⟩) ⟨138,11,138,31⟩) (.cons (.cmp (.var 12 "mixed" ⟨138,36,138,41⟩) .Eq (.tup (.cons (.cst (.int 0) 0 ⟨138,46,138,47⟩) (.cons (.cst (.int 1) 0 ⟨138,49,138,50⟩) .nil)) 0 ⟨138,45,138,51⟩) ⟨138,36,138,51⟩) .nil)) ⟨138,11,138,51⟩) [] ⟨138,4,138,51⟩)
    .nil))))))
abbrev d_is_focus : FD := ⟨"is_focus", s_is_focus, b_is_focus, ["conic", "place"], ["conic", "place", "a", "b", "c", "d", "e", "f", "x", "y", "square_u", "square_v", "mixed", "number"], false⟩
abbrev s_parabola_focus : Stmt := topS 45
def b_parabola_focus : ISs :=
    (.cons (.asg (.tup (.cons (.name 1 "a" ⟨140,4,140,5⟩) (.cons (.name 2 "b" ⟨140,7,140,8⟩) (.cons (.name 3 "c" ⟨140,10,140,11⟩) (.cons (.name 4 "d" ⟨140,13,140,14⟩) (.cons (.name 5 "e" ⟨140,16,140,17⟩) (.cons (.name 6 "_" ⟨140,19,140,20⟩) .nil)))))) 0 ⟨140,4,140,20⟩) (.call "dual" (.cons (.var 0 "conic" ⟨140,28,140,33⟩) .nil) ⟨140,23,140,27⟩ ⟨140,23,140,34⟩) [] false ⟨140,4,140,34⟩)
    (.cons (.asg (.name 7 "under" ⟨141,4,141,9⟩) (.bin (.bin (.var 4 "d" ⟨141,12,141,13⟩) .Mult (.var 4 "d" ⟨141,16,141,17⟩) ⟨141,12,141,17⟩) .Add (.bin (.var 5 "e" ⟨141,20,141,21⟩) .Mult (.var 5 "e" ⟨141,24,141,25⟩) ⟨141,20,141,25⟩) ⟨141,12,141,25⟩) [] false ⟨141,4,141,25⟩)
    (.cons (.ret (.tup (.cons (.call "div" (.cons (.tup (.cons (.bin (.bin (.var 4 "d" ⟨142,17,142,18⟩) .Mult (.bin (.var 1 "a" ⟨142,22,142,23⟩) .Sub (.var 3 "c" ⟨142,26,142,27⟩) ⟨142,22,142,27⟩) ⟨142,17,142,28⟩) .Add (.bin (.var 5 "e" ⟨142,31,142,32⟩) .Mult (.var 2 "b" ⟨142,35,142,36⟩) ⟨142,31,142,36⟩) ⟨142,17,142,36⟩) (.cons (.cst (.int 1) 0 ⟨142,38,142,39⟩) .nil)) 0 ⟨142,16,142,40⟩) (.cons (.tup (.cons (.var 7 "under" ⟨142,43,142,48⟩) (.cons (.cst (.int 1) 0 ⟨142,50,142,51⟩) .nil)) 0 ⟨142,42,142,52⟩) .nil)) ⟨142,12,142,15⟩ ⟨142,12,142,53⟩) (.cons (.call "div" (.cons (.tup (.cons (.bin (.bin (.var 4 "d" ⟨142,60,142,61⟩) .Mult (.var 2 "b" ⟨142,64,142,65⟩) ⟨142,60,142,65⟩) .Sub (.bin (.var 5 "e" ⟨142,68,142,69⟩) .Mult (.bin (.var 1 "a" ⟨142,73,142,74⟩) .Sub (.var 3 "c" ⟨142,77,142,78⟩) ⟨142,73,142,78⟩) ⟨142,68,142,79⟩) ⟨142,60,142,79⟩) (.cons (.cst (.int 1) 0 ⟨142,81,142,82⟩) .nil)) 0 ⟨142,59,142,83⟩) (.cons (.tup (.cons (.var 7 "under" ⟨142,86,142,91⟩) (.cons (.cst (.int 1) 0 ⟨142,93,142,94⟩) .nil)) 0 ⟨142,85,142,95⟩) .nil)) ⟨142,55,142,58⟩ ⟨142,55,142,96⟩) .nil)) 0 ⟨142,11,142,97⟩) [] ⟨142,4,142,97⟩)
    .nil)))
abbrev d_parabola_focus : FD := ⟨"parabola_focus", s_parabola_focus, b_parabola_focus, ["conic"], ["conic", "a", "b", "c", "d", "e", "_", "under"], false⟩
abbrev s_rim_of : Stmt := topS 46
def b_rim_of : ISs :=
    (.cons (.ret (.call "polar" (.cons (.var 0 "conic" ⟨144,17,144,22⟩) (.cons (.call "projective" (.cons (.var 1 "focus" ⟨144,35,144,40⟩) .nil) ⟨144,24,144,34⟩ ⟨144,24,144,41⟩) .nil)) ⟨144,11,144,16⟩ ⟨144,11,144,42⟩) [] ⟨144,4,144,42⟩)
    .nil)
abbrev d_rim_of : FD := ⟨"rim_of", s_rim_of, b_rim_of, ["conic", "focus"], ["conic", "focus"], false⟩
abbrev s_is_triangle : Stmt := topS 48
def b_is_triangle : ISs :=
    (.cons (.ret (.cmp (.call "double_area" (.cons (.idx (.var 0 "rows" ⟨147,23,147,27⟩) (.cst (.int 0) 0 ⟨147,28,147,29⟩) ⟨147,23,147,30⟩) (.cons (.idx (.var 0 "rows" ⟨147,32,147,36⟩) (.cst (.int 1) 0 ⟨147,37,147,38⟩) ⟨147,32,147,39⟩) (.cons (.idx (.var 0 "rows" ⟨147,41,147,45⟩) (.cst (.int 2) 0 ⟨147,46,147,47⟩) ⟨147,41,147,48⟩) .nil))) ⟨147,11,147,22⟩ ⟨147,11,147,49⟩) .NotEq (.tup (.cons (.cst (.int 0) 0 ⟨147,54,147,55⟩) (.cons (.cst (.int 1) 0 ⟨147,57,147,58⟩) .nil)) 0 ⟨147,53,147,59⟩) ⟨147,11,147,59⟩) [] ⟨147,4,147,59⟩)
    .nil)
abbrev d_is_triangle : FD := ⟨"is_triangle", s_is_triangle, b_is_triangle, ["rows"], ["rows"], false⟩
abbrev s_across : Stmt := topS 49
def b_across : ISs :=
    (.cons (.ret (.tup (.cons (.idx (.var 0 "triangle" ⟨149,12,149,20⟩) (.bin (.bin (.var 1 "at" ⟨149,22,149,24⟩) .Add (.cst (.int 1) 0 ⟨149,27,149,28⟩) ⟨149,22,149,28⟩) .Mod (.cst (.int 3) 0 ⟨149,32,149,33⟩) ⟨149,21,149,33⟩) ⟨149,12,149,34⟩) (.cons (.idx (.var 0 "triangle" ⟨149,36,149,44⟩) (.bin (.bin (.var 1 "at" ⟨149,46,149,48⟩) .Add (.cst (.int 2) 0 ⟨149,51,149,52⟩) ⟨149,46,149,52⟩) .Mod (.cst (.int 3) 0 ⟨149,56,149,57⟩) ⟨149,45,149,57⟩) ⟨149,36,149,58⟩) .nil)) 0 ⟨149,11,149,59⟩) [] ⟨149,4,149,59⟩)
    .nil)
abbrev d_across : FD := ⟨"across", s_across, b_across, ["triangle", "at"], ["triangle", "at"], false⟩
abbrev s_round_centre : Stmt := topS 50
def b_round_centre : ISs :=
    (.cons (.asg (.name 1 "rows" ⟨151,4,151,8⟩) (.lst .nil ⟨151,11,151,13⟩) [] true ⟨151,4,151,13⟩)
    (.cons (.for_ (.name 2 "at" ⟨152,8,152,10⟩) (.range (.cons (.cst (.int 2) 0 ⟨152,20,152,21⟩) .nil) ⟨152,14,152,19⟩ ⟨152,14,152,22⟩)
    (.cons (.asg (.tup (.cons (.name 3 "one" ⟨153,8,153,11⟩) (.cons (.name 4 "other" ⟨153,13,153,18⟩) .nil)) 0 ⟨153,8,153,18⟩) (.call "across" (.cons (.var 0 "triangle" ⟨153,28,153,36⟩) (.cons (.var 2 "at" ⟨153,38,153,40⟩) .nil)) ⟨153,21,153,27⟩ ⟨153,21,153,41⟩) [] false ⟨153,8,153,41⟩)
    (.cons (.app 1 "rows" ⟨154,8,154,12⟩ ⟨154,8,154,19⟩ ⟨154,8,154,76⟩ (.call "upright_through" (.cons (.call "joined" (.cons (.var 3 "one" ⟨154,43,154,46⟩) (.cons (.var 4 "other" ⟨154,48,154,53⟩) .nil)) ⟨154,36,154,42⟩ ⟨154,36,154,54⟩) (.cons (.call "middle" (.cons (.var 3 "one" ⟨154,63,154,66⟩) (.cons (.var 4 "other" ⟨154,68,154,73⟩) .nil)) ⟨154,56,154,62⟩ ⟨154,56,154,74⟩) .nil)) ⟨154,20,154,35⟩ ⟨154,20,154,75⟩) [] ⟨154,8,154,76⟩)
    .nil)) [] [2, 3, 4] ⟨152,4,154,76⟩)
    (.cons (.ret (.call "met" (.cons (.idx (.var 1 "rows" ⟨155,15,155,19⟩) (.cst (.int 0) 0 ⟨155,20,155,21⟩) ⟨155,15,155,22⟩) (.cons (.idx (.var 1 "rows" ⟨155,24,155,28⟩) (.cst (.int 1) 0 ⟨155,29,155,30⟩) ⟨155,24,155,31⟩) .nil)) ⟨155,11,155,14⟩ ⟨155,11,155,32⟩) [] ⟨155,4,155,32⟩)
    .nil)))
abbrev d_round_centre : FD := ⟨"round_centre", s_round_centre, b_round_centre, ["triangle"], ["triangle", "rows", "at", "one", "other"], false⟩
abbrev s_round_of : Stmt := topS 51
def b_round_of : ISs :=
    (.cons (.asg (.name 1 "centre" ⟨157,4,157,10⟩) (.call "round_centre" (.cons (.var 0 "triangle" ⟨157,26,157,34⟩) .nil) ⟨157,13,157,25⟩ ⟨157,13,157,35⟩) [] false ⟨157,4,157,35⟩)
    (.cons (.ret (.tup (.cons (.var 1 "centre" ⟨158,12,158,18⟩) (.cons (.call "square_apart" (.cons (.var 1 "centre" ⟨158,33,158,39⟩) (.cons (.idx (.var 0 "triangle" ⟨158,41,158,49⟩) (.cst (.int 0) 0 ⟨158,50,158,51⟩) ⟨158,41,158,52⟩) .nil)) ⟨158,20,158,32⟩ ⟨158,20,158,53⟩) .nil)) 0 ⟨158,11,158,54⟩) [] ⟨158,4,158,54⟩)
    .nil))
abbrev d_round_of : FD := ⟨"round_of", s_round_of, b_round_of, ["triangle"], ["triangle", "centre"], false⟩
abbrev s__law_gcd : Stmt := topS 55
def b__law_gcd : ISs :=
    (.cons (.par [(0, "a", ⟨177,4,177,5⟩), (1, "b", ⟨177,7,177,8⟩)] 0 ⟨177,4,177,8⟩ (.cons (.bcall "abs" (.cons (.var 0 "a" ⟨177,16,177,17⟩) .nil) ⟨177,12,177,15⟩ ⟨177,12,177,18⟩) (.cons (.bcall "abs" (.cons (.var 1 "b" ⟨177,24,177,25⟩) .nil) ⟨177,20,177,23⟩ ⟨177,20,177,26⟩) .nil)) 0 ⟨177,11,177,27⟩ [] ⟨177,4,177,27⟩)
    (.cons (.whl (.cmp (.var 1 "b" ⟨178,10,178,11⟩) .Gt (.cst (.int 0) 0 ⟨178,14,178,15⟩) ⟨178,10,178,15⟩)
    (.cons (.par [(0, "a", ⟨179,8,179,9⟩), (1, "b", ⟨179,11,179,12⟩)] 0 ⟨179,8,179,12⟩ (.cons (.var 1 "b" ⟨179,16,179,17⟩) (.cons (.bin (.bcall "int" (.cons (.var 0 "a" ⟨179,23,179,24⟩) .nil) ⟨179,19,179,22⟩ ⟨179,19,179,25⟩) .Mod (.var 1 "b" ⟨179,28,179,29⟩) ⟨179,19,179,29⟩) .nil)) 0 ⟨179,15,179,30⟩ [] ⟨179,8,179,30⟩)
    .nil) [] [] ⟨178,4,179,30⟩)
    (.cons (.ret (.var 0 "a" ⟨180,11,180,12⟩) [] ⟨180,4,180,12⟩)
    .nil)))
abbrev d__law_gcd : FD := ⟨"_law_gcd", s__law_gcd, b__law_gcd, ["a", "b"], ["a", "b"], false⟩
abbrev s__law_frac : Stmt := topS 56
def b__law_frac : ISs :=
    (.cons (.par [(2, "a", ⟨182,4,182,5⟩), (3, "b", ⟨182,7,182,8⟩)] 0 ⟨182,4,182,8⟩ (.cons (.bcall "abs" (.cons (.var 0 "p" ⟨182,16,182,17⟩) .nil) ⟨182,12,182,15⟩ ⟨182,12,182,18⟩) (.cons (.bcall "abs" (.cons (.var 1 "q" ⟨182,24,182,25⟩) .nil) ⟨182,20,182,23⟩ ⟨182,20,182,26⟩) .nil)) 0 ⟨182,11,182,27⟩ [] ⟨182,4,182,27⟩)
    (.cons (.whl (.cmp (.var 3 "b" ⟨183,10,183,11⟩) .Gt (.cst (.int 0) 0 ⟨183,14,183,15⟩) ⟨183,10,183,15⟩)
    (.cons (.par [(2, "a", ⟨184,8,184,9⟩), (3, "b", ⟨184,11,184,12⟩)] 0 ⟨184,8,184,12⟩ (.cons (.var 3 "b" ⟨184,16,184,17⟩) (.cons (.bin (.bcall "int" (.cons (.var 2 "a" ⟨184,23,184,24⟩) .nil) ⟨184,19,184,22⟩ ⟨184,19,184,25⟩) .Mod (.var 3 "b" ⟨184,28,184,29⟩) ⟨184,19,184,29⟩) .nil)) 0 ⟨184,15,184,30⟩ [] ⟨184,8,184,30⟩)
    .nil) [] [] ⟨183,4,184,30⟩)
    (.cons (.ret (.ifx (.cmp (.var 1 "q" ⟨185,31,185,32⟩) .Gt (.cst (.int 0) 0 ⟨185,35,185,36⟩) ⟨185,31,185,36⟩) (.tup (.cons (.bin (.var 0 "p" ⟨185,12,185,13⟩) .FloorDiv (.var 2 "a" ⟨185,17,185,18⟩) ⟨185,12,185,18⟩) (.cons (.bin (.var 1 "q" ⟨185,20,185,21⟩) .FloorDiv (.var 2 "a" ⟨185,25,185,26⟩) ⟨185,20,185,26⟩) .nil)) 0 ⟨185,11,185,27⟩) (.tup (.cons (.bin (.neg (.var 0 "p" ⟨185,44,185,45⟩) ⟨185,43,185,45⟩) .FloorDiv (.var 2 "a" ⟨185,49,185,50⟩) ⟨185,43,185,50⟩) (.cons (.bin (.neg (.var 1 "q" ⟨185,53,185,54⟩) ⟨185,52,185,54⟩) .FloorDiv (.var 2 "a" ⟨185,58,185,59⟩) ⟨185,52,185,59⟩) .nil)) 0 ⟨185,42,185,60⟩) ⟨185,11,185,60⟩) [] ⟨185,4,185,60⟩)
    .nil)))
abbrev d__law_frac : FD := ⟨"_law_frac", s__law_frac, b__law_frac, ["p", "q"], ["p", "q", "a", "b"], false⟩
abbrev s__law_add : Stmt := topS 57
def b__law_add : ISs :=
    (.cons (.ret (.call "_law_frac" (.cons (.bin (.bin (.idx (.var 0 "one" ⟨187,21,187,24⟩) (.cst (.int 0) 0 ⟨187,25,187,26⟩) ⟨187,21,187,27⟩) .Mult (.idx (.var 1 "other" ⟨187,30,187,35⟩) (.cst (.int 1) 0 ⟨187,36,187,37⟩) ⟨187,30,187,38⟩) ⟨187,21,187,38⟩) .Add (.bin (.idx (.var 1 "other" ⟨187,41,187,46⟩) (.cst (.int 0) 0 ⟨187,47,187,48⟩) ⟨187,41,187,49⟩) .Mult (.idx (.var 0 "one" ⟨187,52,187,55⟩) (.cst (.int 1) 0 ⟨187,56,187,57⟩) ⟨187,52,187,58⟩) ⟨187,41,187,58⟩) ⟨187,21,187,58⟩) (.cons (.bin (.idx (.var 0 "one" ⟨187,60,187,63⟩) (.cst (.int 1) 0 ⟨187,64,187,65⟩) ⟨187,60,187,66⟩) .Mult (.idx (.var 1 "other" ⟨187,69,187,74⟩) (.cst (.int 1) 0 ⟨187,75,187,76⟩) ⟨187,69,187,77⟩) ⟨187,60,187,77⟩) .nil)) ⟨187,11,187,20⟩ ⟨187,11,187,78⟩) [] ⟨187,4,187,78⟩)
    .nil)
abbrev d__law_add : FD := ⟨"_law_add", s__law_add, b__law_add, ["one", "other"], ["one", "other"], false⟩
abbrev s__law_sub : Stmt := topS 58
def b__law_sub : ISs :=
    (.cons (.ret (.call "_law_frac" (.cons (.bin (.bin (.idx (.var 0 "a" ⟨189,21,189,22⟩) (.cst (.int 0) 0 ⟨189,23,189,24⟩) ⟨189,21,189,25⟩) .Mult (.idx (.var 1 "b" ⟨189,28,189,29⟩) (.cst (.int 1) 0 ⟨189,30,189,31⟩) ⟨189,28,189,32⟩) ⟨189,21,189,32⟩) .Sub (.bin (.idx (.var 1 "b" ⟨189,35,189,36⟩) (.cst (.int 0) 0 ⟨189,37,189,38⟩) ⟨189,35,189,39⟩) .Mult (.idx (.var 0 "a" ⟨189,42,189,43⟩) (.cst (.int 1) 0 ⟨189,44,189,45⟩) ⟨189,42,189,46⟩) ⟨189,35,189,46⟩) ⟨189,21,189,46⟩) (.cons (.bin (.idx (.var 0 "a" ⟨189,48,189,49⟩) (.cst (.int 1) 0 ⟨189,50,189,51⟩) ⟨189,48,189,52⟩) .Mult (.idx (.var 1 "b" ⟨189,55,189,56⟩) (.cst (.int 1) 0 ⟨189,57,189,58⟩) ⟨189,55,189,59⟩) ⟨189,48,189,59⟩) .nil)) ⟨189,11,189,20⟩ ⟨189,11,189,60⟩) [] ⟨189,4,189,60⟩)
    .nil)
abbrev d__law_sub : FD := ⟨"_law_sub", s__law_sub, b__law_sub, ["a", "b"], ["a", "b"], false⟩
abbrev s__law_mul : Stmt := topS 59
def b__law_mul : ISs :=
    (.cons (.ret (.call "_law_frac" (.cons (.bin (.idx (.var 0 "a" ⟨191,21,191,22⟩) (.cst (.int 0) 0 ⟨191,23,191,24⟩) ⟨191,21,191,25⟩) .Mult (.idx (.var 1 "b" ⟨191,28,191,29⟩) (.cst (.int 0) 0 ⟨191,30,191,31⟩) ⟨191,28,191,32⟩) ⟨191,21,191,32⟩) (.cons (.bin (.idx (.var 0 "a" ⟨191,34,191,35⟩) (.cst (.int 1) 0 ⟨191,36,191,37⟩) ⟨191,34,191,38⟩) .Mult (.idx (.var 1 "b" ⟨191,41,191,42⟩) (.cst (.int 1) 0 ⟨191,43,191,44⟩) ⟨191,41,191,45⟩) ⟨191,34,191,45⟩) .nil)) ⟨191,11,191,20⟩ ⟨191,11,191,46⟩) [] ⟨191,4,191,46⟩)
    .nil)
abbrev d__law_mul : FD := ⟨"_law_mul", s__law_mul, b__law_mul, ["a", "b"], ["a", "b"], false⟩
abbrev s__law_div : Stmt := topS 60
def b__law_div : ISs :=
    (.cons (.ret (.call "_law_frac" (.cons (.bin (.idx (.var 0 "a" ⟨193,21,193,22⟩) (.cst (.int 0) 0 ⟨193,23,193,24⟩) ⟨193,21,193,25⟩) .Mult (.idx (.var 1 "b" ⟨193,28,193,29⟩) (.cst (.int 1) 0 ⟨193,30,193,31⟩) ⟨193,28,193,32⟩) ⟨193,21,193,32⟩) (.cons (.bin (.idx (.var 0 "a" ⟨193,34,193,35⟩) (.cst (.int 1) 0 ⟨193,36,193,37⟩) ⟨193,34,193,38⟩) .Mult (.idx (.var 1 "b" ⟨193,41,193,42⟩) (.cst (.int 0) 0 ⟨193,43,193,44⟩) ⟨193,41,193,45⟩) ⟨193,34,193,45⟩) .nil)) ⟨193,11,193,20⟩ ⟨193,11,193,46⟩) [] ⟨193,4,193,46⟩)
    .nil)
abbrev d__law_div : FD := ⟨"_law_div", s__law_div, b__law_div, ["a", "b"], ["a", "b"], false⟩
abbrev s__law_told : Stmt := topS 61
def b__law_told : ISs :=
    (.cons (.asg (.name 1 "common" ⟨195,4,195,10⟩) (.cst (.int 0) 0 ⟨195,13,195,14⟩) [] false ⟨195,4,195,14⟩)
    (.cons (.for_ (.name 2 "x" ⟨196,8,196,9⟩) (.seq (.var 0 "row" ⟨196,13,196,16⟩))
    (.cons (.asg (.name 1 "common" ⟨197,8,197,14⟩) (.call "_law_gcd" (.cons (.var 1 "common" ⟨197,26,197,32⟩) (.cons (.var 2 "x" ⟨197,34,197,35⟩) .nil)) ⟨197,17,197,25⟩ ⟨197,17,197,36⟩) [] false ⟨197,8,197,36⟩)
    .nil) [] [2] ⟨196,4,197,36⟩)
    (.cons (.asg (.name 3 "first" ⟨198,4,198,9⟩) (.idx (.lc (.var 2 "x" ⟨198,13,198,14⟩) (.name 2 "x" ⟨198,19,198,20⟩) (.seq (.var 0 "row" ⟨198,24,198,27⟩)) (.some (.cmp (.var 2 "x" ⟨198,31,198,32⟩) .NotEq (.cst (.int 0) 0 ⟨198,36,198,37⟩) ⟨198,31,198,37⟩)) { kind := .function, names := [(".0", .local), ("x", .local)], isGenerator := false, isCoroutine := false, more := [] } [("x", 2)] ⟨198,12,198,38⟩) (.cst (.int 0) 0 ⟨198,39,198,40⟩) ⟨198,12,198,41⟩) [] false ⟨198,4,198,41⟩)
    (.cons (.ret (.bcall "tuple" (.cons (.lc (.ifx (.cmp (.var 3 "first" ⟨199,33,199,38⟩) .Gt (.cst (.int 0) 0 ⟨199,41,199,42⟩) ⟨199,33,199,42⟩) (.bin (.var 2 "x" ⟨199,18,199,19⟩) .FloorDiv (.var 1 "common" ⟨199,23,199,29⟩) ⟨199,18,199,29⟩) (.neg (.bin (.var 2 "x" ⟨199,50,199,51⟩) .FloorDiv (.var 1 "common" ⟨199,55,199,61⟩) ⟨199,50,199,61⟩) ⟨199,48,199,62⟩) ⟨199,18,199,62⟩) (.name 2 "x" ⟨199,67,199,68⟩) (.seq (.var 0 "row" ⟨199,72,199,75⟩)) .none { kind := .function, names := [(".0", .local), ("x", .local), ("common", .free), ("first", .free)], isGenerator := false, isCoroutine := false, more := [] } [("x", 2)] ⟨199,17,199,76⟩) .nil) ⟨199,11,199,16⟩ ⟨199,11,199,77⟩) [] ⟨199,4,199,77⟩)
    .nil))))
abbrev d__law_told : FD := ⟨"_law_told", s__law_told, b__law_told, ["row"], ["row", "common", "x", "first"], false⟩
abbrev s__law_told_fracs : Stmt := topS 62
def b__law_told_fracs : ISs :=
    (.cons (.asg (.name 1 "low" ⟨201,4,201,7⟩) (.cst (.int 1) 0 ⟨201,10,201,11⟩) [] false ⟨201,4,201,11⟩)
    (.cons (.for_ (.tup (.cons (.name 2 "p" ⟨202,8,202,9⟩) (.cons (.name 3 "q" ⟨202,11,202,12⟩) .nil)) 0 ⟨202,8,202,12⟩) (.seq (.var 0 "parts" ⟨202,16,202,21⟩))
    (.cons (.asg (.name 1 "low" ⟨203,8,203,11⟩) (.bin (.bin (.var 1 "low" ⟨203,14,203,17⟩) .Mult (.var 3 "q" ⟨203,20,203,21⟩) ⟨203,14,203,21⟩) .FloorDiv (.call "_law_gcd" (.cons (.var 1 "low" ⟨203,34,203,37⟩) (.cons (.var 3 "q" ⟨203,39,203,40⟩) .nil)) ⟨203,25,203,33⟩ ⟨203,25,203,41⟩) ⟨203,14,203,41⟩) [] false ⟨203,8,203,41⟩)
    .nil) [] [2, 3] ⟨202,4,203,41⟩)
    (.cons (.ret (.call "_law_told" (.cons (.lc (.bin (.var 2 "p" ⟨204,22,204,23⟩) .Mult (.bin (.var 1 "low" ⟨204,27,204,30⟩) .FloorDiv (.var 3 "q" ⟨204,34,204,35⟩) ⟨204,27,204,35⟩) ⟨204,22,204,36⟩) (.tup (.cons (.name 2 "p" ⟨204,41,204,42⟩) (.cons (.name 3 "q" ⟨204,44,204,45⟩) .nil)) 0 ⟨204,41,204,45⟩) (.seq (.var 0 "parts" ⟨204,49,204,54⟩)) .none { kind := .function, names := [(".0", .local), ("p", .local), ("q", .local), ("low", .free)], isGenerator := false, isCoroutine := false, more := [] } [("p", 2), ("q", 3)] ⟨204,21,204,55⟩) .nil) ⟨204,11,204,20⟩ ⟨204,11,204,56⟩) [] ⟨204,4,204,56⟩)
    .nil)))
abbrev d__law_told_fracs : FD := ⟨"_law_told_fracs", s__law_told_fracs, b__law_told_fracs, ["parts"], ["parts", "low", "p", "q"], false⟩
abbrev s__law_fraction : Stmt := topS 63
def b__law_fraction : ISs :=
    (.cons (.ret (.call "_law_frac" (.cons (.bin (.call "_law_draw" (.cons (.var 0 "state" ⟨206,31,206,36⟩) (.cons (.bin (.bin (.cst (.int 2) 0 ⟨206,38,206,39⟩) .Mult (.var 1 "top" ⟨206,42,206,45⟩) ⟨206,38,206,45⟩) .Add (.cst (.int 1) 0 ⟨206,48,206,49⟩) ⟨206,38,206,49⟩) .nil)) ⟨206,21,206,30⟩ ⟨206,21,206,50⟩) .Sub (.var 1 "top" ⟨206,53,206,56⟩) ⟨206,21,206,56⟩) (.cons (.bin (.cst (.int 1) 0 ⟨206,58,206,59⟩) .Add (.call "_law_draw" (.cons (.var 0 "state" ⟨206,72,206,77⟩) (.cons (.var 2 "low" ⟨206,79,206,82⟩) .nil)) ⟨206,62,206,71⟩ ⟨206,62,206,83⟩) ⟨206,58,206,83⟩) .nil)) ⟨206,11,206,20⟩ ⟨206,11,206,84⟩) [] ⟨206,4,206,84⟩)
    .nil)
abbrev d__law_fraction : FD := ⟨"_law_fraction", s__law_fraction, b__law_fraction, ["state", "top", "low"], ["state", "top", "low"], false⟩
abbrev s__law_place : Stmt := topS 64
def b__law_place : ISs :=
    (.cons (.ret (.tup (.cons (.call "_law_fraction" (.cons (.var 0 "state" ⟨208,26,208,31⟩) (.cons (.var 1 "top" ⟨208,33,208,36⟩) (.cons (.var 2 "low" ⟨208,38,208,41⟩) .nil))) ⟨208,12,208,25⟩ ⟨208,12,208,42⟩) (.cons (.call "_law_fraction" (.cons (.var 0 "state" ⟨208,58,208,63⟩) (.cons (.var 1 "top" ⟨208,65,208,68⟩) (.cons (.var 2 "low" ⟨208,70,208,73⟩) .nil))) ⟨208,44,208,57⟩ ⟨208,44,208,74⟩) .nil)) 0 ⟨208,11,208,75⟩) [] ⟨208,4,208,75⟩)
    .nil)
abbrev d__law_place : FD := ⟨"_law_place", s__law_place, b__law_place, ["state", "top", "low"], ["state", "top", "low"], false⟩
abbrev s_law : Stmt := topS 65
def q241 : ISs := .cons (.ret (.cst (.bool true) 0 ⟨241,11,241,15⟩) [] ⟨241,4,241,15⟩)
    .nil
def q240 : ISs := .cons (.ret (.cst (.bool false) 0 ⟨240,23,240,28⟩) [] ⟨240,16,240,28⟩)
    .nil
def q239 : ISs := .cons (.ite (.cmp (.call "square_apart" (.cons (.var 22 "centre" ⟨239,28,239,34⟩) (.cons (.var 3 "focus" ⟨239,36,239,41⟩) .nil)) ⟨239,15,239,27⟩ ⟨239,15,239,42⟩) .NotEq (.var 23 "square" ⟨239,46,239,52⟩) ⟨239,15,239,52⟩)
    q240
    .nil [] ⟨239,12,240,28⟩)
    .nil
def q238 : ISs := .cons (.asg (.tup (.cons (.name 22 "centre" ⟨238,12,238,18⟩) (.cons (.name 23 "square" ⟨238,20,238,26⟩) .nil)) 0 ⟨238,12,238,26⟩) (.call "round_of" (.cons (.var 21 "corners" ⟨238,38,238,45⟩) .nil) ⟨238,29,238,37⟩ ⟨238,29,238,46⟩) [] false ⟨238,12,238,46⟩)
    q239
def q237 : ISs := .cons (.ite (.boolop .And (.cons (.cmp (.cst .none 0 ⟨237,11,237,15⟩) .NotIn (.var 21 "corners" ⟨237,23,237,30⟩) ⟨237,11,237,30⟩) (.cons (.call "is_triangle" (.cons (.var 21 "corners" ⟨237,47,237,54⟩) .nil) ⟨237,35,237,46⟩ ⟨237,35,237,55⟩) .nil)) ⟨237,11,237,55⟩)
    q238
    .nil [] ⟨237,8,240,28⟩)
    .nil
def q236 : ISs := .cons (.asg (.name 21 "corners" ⟨236,8,236,15⟩) (.tup (.cons (.call "met" (.cons (.idx (.var 9 "tangents" ⟨236,23,236,31⟩) (.cst (.int 0) 0 ⟨236,32,236,33⟩) ⟨236,23,236,34⟩) (.cons (.idx (.var 9 "tangents" ⟨236,36,236,44⟩) (.cst (.int 1) 0 ⟨236,45,236,46⟩) ⟨236,36,236,47⟩) .nil)) ⟨236,19,236,22⟩ ⟨236,19,236,48⟩) (.cons (.call "met" (.cons (.idx (.var 9 "tangents" ⟨236,54,236,62⟩) (.cst (.int 0) 0 ⟨236,63,236,64⟩) ⟨236,54,236,65⟩) (.cons (.idx (.var 9 "tangents" ⟨236,67,236,75⟩) (.cst (.int 2) 0 ⟨236,76,236,77⟩) ⟨236,67,236,78⟩) .nil)) ⟨236,50,236,53⟩ ⟨236,50,236,79⟩) (.cons (.call "met" (.cons (.idx (.var 9 "tangents" ⟨236,85,236,93⟩) (.cst (.int 1) 0 ⟨236,94,236,95⟩) ⟨236,85,236,96⟩) (.cons (.idx (.var 9 "tangents" ⟨236,98,236,106⟩) (.cst (.int 2) 0 ⟨236,107,236,108⟩) ⟨236,98,236,109⟩) .nil)) ⟨236,81,236,84⟩ ⟨236,81,236,110⟩) .nil))) 0 ⟨236,18,236,111⟩) [] false ⟨236,8,236,111⟩)
    q237
def q235 : ISs := .cons (.ret (.cst (.bool false) 0 ⟨235,23,235,28⟩) [] ⟨235,16,235,28⟩)
    .nil
def q234 : ISs := .cons (.ite (.boolop .Or (.cons (.not (.call "is_of" (.cons (.var 5 "conic" ⟨234,25,234,30⟩) (.cons (.var 20 "touch" ⟨234,32,234,37⟩) .nil)) ⟨234,19,234,24⟩ ⟨234,19,234,38⟩) ⟨234,15,234,38⟩) (.cons (.cmp (.call "tangent" (.cons (.var 5 "conic" ⟨234,50,234,55⟩) (.cons (.var 20 "touch" ⟨234,57,234,62⟩) .nil)) ⟨234,42,234,49⟩ ⟨234,42,234,63⟩) .NotEq (.var 18 "line" ⟨234,67,234,71⟩) ⟨234,42,234,71⟩) (.cons (.cmp (.call "square_apart" (.cons (.var 20 "touch" ⟨234,88,234,93⟩) (.cons (.var 3 "focus" ⟨234,95,234,100⟩) .nil)) ⟨234,75,234,87⟩ ⟨234,75,234,101⟩) .NotEq (.call "square_apart" (.cons (.var 20 "touch" ⟨234,118,234,123⟩) (.cons (.var 13 "spot" ⟨234,125,234,129⟩) .nil)) ⟨234,105,234,117⟩ ⟨234,105,234,130⟩) ⟨234,75,234,130⟩) .nil))) ⟨234,15,234,130⟩)
    q235
    .nil [] ⟨234,12,235,28⟩)
    .nil
def q233 : ISs := .cons (.asg (.name 20 "touch" ⟨233,12,233,17⟩) (.call "met" (.cons (.var 18 "line" ⟨233,24,233,28⟩) (.cons (.var 19 "upright" ⟨233,30,233,37⟩) .nil)) ⟨233,20,233,23⟩ ⟨233,20,233,38⟩) [] false ⟨233,12,233,38⟩)
    q234
def q232 : ISs := .cons (.asg (.name 19 "upright" ⟨232,12,232,19⟩) (.call "_law_told_fracs" (.cons (.lst (.cons (.tup (.cons (.var 7 "b" ⟨232,40,232,41⟩) (.cons (.cst (.int 1) 0 ⟨232,43,232,44⟩) .nil)) 0 ⟨232,39,232,45⟩) (.cons (.tup (.cons (.neg (.var 6 "a" ⟨232,49,232,50⟩) ⟨232,48,232,50⟩) (.cons (.cst (.int 1) 0 ⟨232,52,232,53⟩) .nil)) 0 ⟨232,47,232,54⟩) (.cons (.call "_law_sub" (.cons (.call "_law_mul" (.cons (.tup (.cons (.var 6 "a" ⟨232,75,232,76⟩) (.cons (.cst (.int 1) 0 ⟨232,78,232,79⟩) .nil)) 0 ⟨232,74,232,80⟩) (.cons (.idx (.var 13 "spot" ⟨232,82,232,86⟩) (.cst (.int 1) 0 ⟨232,87,232,88⟩) ⟨232,82,232,89⟩) .nil)) ⟨232,65,232,73⟩ ⟨232,65,232,90⟩) (.cons (.call "_law_mul" (.cons (.tup (.cons (.var 7 "b" ⟨232,102,232,103⟩) (.cons (.cst (.int 1) 0 ⟨232,105,232,106⟩) .nil)) 0 ⟨232,101,232,107⟩) (.cons (.idx (.var 13 "spot" ⟨232,109,232,113⟩) (.cst (.int 0) 0 ⟨232,114,232,115⟩) ⟨232,109,232,116⟩) .nil)) ⟨232,92,232,100⟩ ⟨232,92,232,117⟩) .nil)) ⟨232,56,232,64⟩ ⟨232,56,232,118⟩) .nil))) ⟨232,38,232,119⟩) .nil) ⟨232,22,232,37⟩ ⟨232,22,232,120⟩) [] false ⟨232,12,232,120⟩)
    q233
def q231 : ISs := .cons (.ret (.cst (.bool false) 0 ⟨231,23,231,28⟩) [] ⟨231,16,231,28⟩)
    .nil
def q230 : ISs := .cons (.ite (.boolop .Or (.cons (.not (.call "is_tangent" (.cons (.var 5 "conic" ⟨230,30,230,35⟩) (.cons (.var 18 "line" ⟨230,37,230,41⟩) .nil)) ⟨230,19,230,29⟩ ⟨230,19,230,42⟩) ⟨230,15,230,42⟩) (.cons (.cmp (.call "mirrored" (.cons (.var 18 "line" ⟨230,55,230,59⟩) (.cons (.var 3 "focus" ⟨230,61,230,66⟩) .nil)) ⟨230,46,230,54⟩ ⟨230,46,230,67⟩) .NotEq (.var 13 "spot" ⟨230,71,230,75⟩) ⟨230,46,230,75⟩) .nil)) ⟨230,15,230,75⟩)
    q231
    .nil [] ⟨230,12,231,28⟩)
    q232
def q229 : ISs := .cons (.app 9 "tangents" ⟨229,12,229,20⟩ ⟨229,12,229,27⟩ ⟨229,12,229,33⟩ (.var 18 "line" ⟨229,28,229,32⟩) [] ⟨229,12,229,33⟩)
    q230
def q228 : ISs := .cons (.asg (.name 18 "line" ⟨228,12,228,16⟩) (.call "_law_told_fracs" (.cons (.lst (.cons (.var 14 "u" ⟨228,36,228,37⟩) (.cons (.var 15 "v" ⟨228,39,228,40⟩) (.cons (.tup (.cons (.neg (.idx (.var 17 "last" ⟨228,44,228,48⟩) (.cst (.int 0) 0 ⟨228,49,228,50⟩) ⟨228,44,228,51⟩) ⟨228,43,228,51⟩) (.cons (.idx (.var 17 "last" ⟨228,53,228,57⟩) (.cst (.int 1) 0 ⟨228,58,228,59⟩) ⟨228,53,228,60⟩) .nil)) 0 ⟨228,42,228,61⟩) .nil))) ⟨228,35,228,62⟩) .nil) ⟨228,19,228,34⟩ ⟨228,19,228,63⟩) [] false ⟨228,12,228,63⟩)
    q229
def q227 : ISs := .cons (.asg (.name 17 "last" ⟨227,12,227,16⟩) (.call "_law_add" (.cons (.call "_law_mul" (.cons (.var 14 "u" ⟨227,37,227,38⟩) (.cons (.idx (.var 16 "middle_v" ⟨227,40,227,48⟩) (.cst (.int 0) 0 ⟨227,49,227,50⟩) ⟨227,40,227,51⟩) .nil)) ⟨227,28,227,36⟩ ⟨227,28,227,52⟩) (.cons (.call "_law_mul" (.cons (.var 15 "v" ⟨227,63,227,64⟩) (.cons (.idx (.var 16 "middle_v" ⟨227,66,227,74⟩) (.cst (.int 1) 0 ⟨227,75,227,76⟩) ⟨227,66,227,77⟩) .nil)) ⟨227,54,227,62⟩ ⟨227,54,227,78⟩) .nil)) ⟨227,19,227,27⟩ ⟨227,19,227,79⟩) [] false ⟨227,12,227,79⟩)
    q228
def q226 : ISs := .cons (.asg (.name 16 "middle_v" ⟨226,12,226,20⟩) (.tup (.cons (.call "_law_div" (.cons (.call "_law_add" (.cons (.idx (.var 13 "spot" ⟨226,42,226,46⟩) (.cst (.int 0) 0 ⟨226,47,226,48⟩) ⟨226,42,226,49⟩) (.cons (.idx (.var 3 "focus" ⟨226,51,226,56⟩) (.cst (.int 0) 0 ⟨226,57,226,58⟩) ⟨226,51,226,59⟩) .nil)) ⟨226,33,226,41⟩ ⟨226,33,226,60⟩) (.cons (.tup (.cons (.cst (.int 2) 0 ⟨226,63,226,64⟩) (.cons (.cst (.int 1) 0 ⟨226,66,226,67⟩) .nil)) 0 ⟨226,62,226,68⟩) .nil)) ⟨226,24,226,32⟩ ⟨226,24,226,69⟩) (.cons (.call "_law_div" (.cons (.call "_law_add" (.cons (.idx (.var 13 "spot" ⟨226,89,226,93⟩) (.cst (.int 1) 0 ⟨226,94,226,95⟩) ⟨226,89,226,96⟩) (.cons (.idx (.var 3 "focus" ⟨226,98,226,103⟩) (.cst (.int 1) 0 ⟨226,104,226,105⟩) ⟨226,98,226,106⟩) .nil)) ⟨226,80,226,88⟩ ⟨226,80,226,107⟩) (.cons (.tup (.cons (.cst (.int 2) 0 ⟨226,110,226,111⟩) (.cons (.cst (.int 1) 0 ⟨226,113,226,114⟩) .nil)) 0 ⟨226,109,226,115⟩) .nil)) ⟨226,71,226,79⟩ ⟨226,71,226,116⟩) .nil)) 0 ⟨226,23,226,117⟩) [] false ⟨226,12,226,117⟩)
    q227
def q225 : ISs := .cons (.par [(14, "u", ⟨225,12,225,13⟩), (15, "v", ⟨225,15,225,16⟩)] 0 ⟨225,12,225,16⟩ (.cons (.call "_law_sub" (.cons (.idx (.var 13 "spot" ⟨225,29,225,33⟩) (.cst (.int 0) 0 ⟨225,34,225,35⟩) ⟨225,29,225,36⟩) (.cons (.idx (.var 3 "focus" ⟨225,38,225,43⟩) (.cst (.int 0) 0 ⟨225,44,225,45⟩) ⟨225,38,225,46⟩) .nil)) ⟨225,20,225,28⟩ ⟨225,20,225,47⟩) (.cons (.call "_law_sub" (.cons (.idx (.var 13 "spot" ⟨225,58,225,62⟩) (.cst (.int 1) 0 ⟨225,63,225,64⟩) ⟨225,58,225,65⟩) (.cons (.idx (.var 3 "focus" ⟨225,67,225,72⟩) (.cst (.int 1) 0 ⟨225,73,225,74⟩) ⟨225,67,225,75⟩) .nil)) ⟨225,49,225,57⟩ ⟨225,49,225,76⟩) .nil)) 0 ⟨225,19,225,77⟩ [] ⟨225,12,225,77⟩)
    q226
def q224 : ISs := .cons (.asg (.name 13 "spot" ⟨224,12,224,16⟩) (.tup (.cons (.call "_law_add" (.cons (.idx (.var 12 "low" ⟨224,29,224,32⟩) (.cst (.int 0) 0 ⟨224,33,224,34⟩) ⟨224,29,224,35⟩) (.cons (.tup (.cons (.bin (.neg (.var 7 "b" ⟨224,39,224,40⟩) ⟨224,38,224,40⟩) .Mult (.var 11 "t" ⟨224,43,224,44⟩) ⟨224,38,224,44⟩) (.cons (.cst (.int 1) 0 ⟨224,46,224,47⟩) .nil)) 0 ⟨224,37,224,48⟩) .nil)) ⟨224,20,224,28⟩ ⟨224,20,224,49⟩) (.cons (.call "_law_add" (.cons (.idx (.var 12 "low" ⟨224,60,224,63⟩) (.cst (.int 1) 0 ⟨224,64,224,65⟩) ⟨224,60,224,66⟩) (.cons (.tup (.cons (.bin (.var 6 "a" ⟨224,69,224,70⟩) .Mult (.var 11 "t" ⟨224,73,224,74⟩) ⟨224,69,224,74⟩) (.cons (.cst (.int 1) 0 ⟨224,76,224,77⟩) .nil)) 0 ⟨224,68,224,78⟩) .nil)) ⟨224,51,224,59⟩ ⟨224,51,224,79⟩) .nil)) 0 ⟨224,19,224,80⟩) [] false ⟨224,12,224,80⟩)
    q225
def q223 : ISs := .cons (.asg (.name 12 "low" ⟨223,12,223,15⟩) (.call "foot" (.cons (.var 4 "rim" ⟨223,23,223,26⟩) (.cons (.var 3 "focus" ⟨223,28,223,33⟩) .nil)) ⟨223,18,223,22⟩ ⟨223,18,223,34⟩) [] false ⟨223,12,223,34⟩)
    q224
def q222 : ISs := .cons (.asg (.name 11 "t" ⟨222,12,222,13⟩) (.bin (.bin (.call "_law_draw" (.cons (.var 1 "state" ⟨222,26,222,31⟩) (.cons (.cst (.int 15) 0 ⟨222,33,222,35⟩) .nil)) ⟨222,16,222,25⟩ ⟨222,16,222,36⟩) .Sub (.cst (.int 7) 0 ⟨222,39,222,40⟩) ⟨222,16,222,40⟩) .Add (.bin (.cst (.int 20) 0 ⟨222,43,222,45⟩) .Mult (.var 10 "k" ⟨222,48,222,49⟩) ⟨222,43,222,49⟩) ⟨222,16,222,49⟩) [] false ⟨222,12,222,49⟩)
    q223
def q221 : ISs := .cons (.for_ (.name 10 "k" ⟨221,12,221,13⟩) (.range (.cons (.cst (.int 3) 0 ⟨221,23,221,24⟩) .nil) ⟨221,17,221,22⟩ ⟨221,17,221,25⟩)
    q222 [] [10, 11, 12, 13, 14, 15, 16, 17, 18, 19, 20] ⟨221,8,235,28⟩)
    q236
def q220 : ISs := .cons (.asg (.name 9 "tangents" ⟨220,8,220,16⟩) (.lst .nil ⟨220,19,220,21⟩) [] true ⟨220,8,220,21⟩)
    q221
def q219 : ISs := .cons (.asg (.tup (.cons (.name 6 "a" ⟨219,8,219,9⟩) (.cons (.name 7 "b" ⟨219,11,219,12⟩) (.cons (.name 8 "c" ⟨219,14,219,15⟩) .nil))) 0 ⟨219,8,219,15⟩) (.var 4 "rim" ⟨219,18,219,21⟩) [] false ⟨219,8,219,21⟩)
    q220
def q218 : ISs := .cons (.ret (.cst (.bool false) 0 ⟨218,19,218,24⟩) [] ⟨218,12,218,24⟩)
    .nil
def q217 : ISs := .cons (.ite (.boolop .Or (.cons (.cmp (.call "kind_of" (.cons (.var 5 "conic" ⟨217,19,217,24⟩) .nil) ⟨217,11,217,18⟩ ⟨217,11,217,25⟩) .NotEq (.cst (.str "parabola") 0 ⟨217,29,217,39⟩) ⟨217,11,217,39⟩) (.cons (.cmp (.call "parabola_focus" (.cons (.var 5 "conic" ⟨217,58,217,63⟩) .nil) ⟨217,43,217,57⟩ ⟨217,43,217,64⟩) .NotEq (.var 3 "focus" ⟨217,68,217,73⟩) ⟨217,43,217,73⟩) (.cons (.cmp (.call "rim_of" (.cons (.var 5 "conic" ⟨217,84,217,89⟩) (.cons (.var 3 "focus" ⟨217,91,217,96⟩) .nil)) ⟨217,77,217,83⟩ ⟨217,77,217,97⟩) .NotEq (.var 4 "rim" ⟨217,101,217,104⟩) ⟨217,77,217,104⟩) (.cons (.not (.call "is_focus" (.cons (.var 5 "conic" ⟨217,122,217,127⟩) (.cons (.var 3 "focus" ⟨217,129,217,134⟩) .nil)) ⟨217,113,217,121⟩ ⟨217,113,217,135⟩) ⟨217,109,217,135⟩) .nil)))) ⟨217,11,217,136⟩)
    q218
    .nil [] ⟨217,8,218,24⟩)
    q219
def q216 : ISs := .cons (.asg (.name 5 "conic" ⟨216,8,216,13⟩) (.call "conic_of" (.cons (.var 3 "focus" ⟨216,25,216,30⟩) (.cons (.var 4 "rim" ⟨216,32,216,35⟩) (.cons (.tup (.cons (.cst (.int 1) 0 ⟨216,38,216,39⟩) (.cons (.cst (.int 1) 0 ⟨216,41,216,42⟩) .nil)) 0 ⟨216,37,216,43⟩) .nil))) ⟨216,16,216,24⟩ ⟨216,16,216,44⟩) [] false ⟨216,8,216,44⟩)
    q217
def q215 : ISs := .cons (.asg (.name 4 "rim" ⟨215,12,215,15⟩) (.call "_law_told" (.cons (.bin (.slice (.var 4 "rim" ⟨215,28,215,31⟩) .none (.some (.cst (.int 2) 0 ⟨215,33,215,34⟩)) ⟨215,32,215,34⟩ ⟨215,28,215,35⟩) .Add (.tup (.cons (.bin (.idx (.var 4 "rim" ⟨215,39,215,42⟩) (.cst (.int 2) 0 ⟨215,43,215,44⟩) ⟨215,39,215,45⟩) .Add (.cst (.int 1) 0 ⟨215,48,215,49⟩) ⟨215,39,215,49⟩) .nil) 0 ⟨215,38,215,51⟩) ⟨215,28,215,51⟩) .nil) ⟨215,18,215,27⟩ ⟨215,18,215,52⟩) [] false ⟨215,12,215,52⟩)
    .nil
def q214 : ISs := .cons (.whl (.call "is_on" (.cons (.var 4 "rim" ⟨214,20,214,23⟩) (.cons (.var 3 "focus" ⟨214,25,214,30⟩) .nil)) ⟨214,14,214,19⟩ ⟨214,14,214,31⟩)
    q215 [] [] ⟨214,8,215,52⟩)
    q216
def q213 : ISs := .cons (.asg (.name 4 "rim" ⟨213,8,213,11⟩) (.call "_law_told" (.cons (.tup (.cons (.bin (.call "_law_draw" (.cons (.var 1 "state" ⟨213,35,213,40⟩) (.cons (.cst (.int 5) 0 ⟨213,42,213,43⟩) .nil)) ⟨213,25,213,34⟩ ⟨213,25,213,44⟩) .Sub (.cst (.int 2) 0 ⟨213,47,213,48⟩) ⟨213,25,213,48⟩) (.cons (.bin (.cst (.int 1) 0 ⟨213,50,213,51⟩) .Add (.call "_law_draw" (.cons (.var 1 "state" ⟨213,64,213,69⟩) (.cons (.cst (.int 3) 0 ⟨213,71,213,72⟩) .nil)) ⟨213,54,213,63⟩ ⟨213,54,213,73⟩) ⟨213,50,213,73⟩) (.cons (.bin (.call "_law_draw" (.cons (.var 1 "state" ⟨213,85,213,90⟩) (.cons (.cst (.int 9) 0 ⟨213,92,213,93⟩) .nil)) ⟨213,75,213,84⟩ ⟨213,75,213,94⟩) .Sub (.cst (.int 4) 0 ⟨213,97,213,98⟩) ⟨213,75,213,98⟩) .nil))) 0 ⟨213,24,213,99⟩) .nil) ⟨213,14,213,23⟩ ⟨213,14,213,100⟩) [] false ⟨213,8,213,100⟩)
    q214
def q212 : ISs := .cons (.asg (.name 3 "focus" ⟨212,8,212,13⟩) (.call "_law_place" (.cons (.var 1 "state" ⟨212,27,212,32⟩) (.cons (.cst (.int 3) 0 ⟨212,34,212,35⟩) (.cons (.cst (.int 1) 0 ⟨212,37,212,38⟩) .nil))) ⟨212,16,212,26⟩ ⟨212,16,212,39⟩) [] false ⟨212,8,212,39⟩)
    q213
def q211 : ISs := .cons (.for_ (.name 2 "turn" ⟨211,8,211,12⟩) (.range (.cons (.cst (.int 3) 0 ⟨211,22,211,23⟩) .nil) ⟨211,16,211,21⟩ ⟨211,16,211,24⟩)
    q212 [] [2, 3, 4, 5, 6, 7, 8, 9, 10, 11, 12, 13, 14, 15, 16, 17, 18, 19, 20, 21, 22, 23] ⟨211,4,240,28⟩)
    q241
def b_law : ISs :=
    q211
abbrev d_law : FD := ⟨"law", s_law, b_law, ["script"], ["script", "state", "turn", "focus", "rim", "conic", "a", "b", "c", "tangents", "k", "t", "low", "spot", "u", "v", "middle_v", "last", "line", "upright", "touch", "corners", "centre", "square"], false⟩
abbrev T0 : Tab := ⟨[], [], ["abs", "int", "len", "max", "range", "sum", "tuple", "zip"], true, false, false⟩
theorem ab_lowest : b_lowest.ast = defBody s_lowest ∧ d_lowest.Bind := ⟨rfl, fun _ _ _ _ _ _ _ us hl => match us, hl with | [_, _], _ => rfl⟩
theorem ab_add : b_add.ast = defBody s_add ∧ d_add.Bind := ⟨rfl, fun _ _ _ _ _ _ _ us hl => match us, hl with | [_, _], _ => rfl⟩
theorem ab_sub : b_sub.ast = defBody s_sub ∧ d_sub.Bind := ⟨rfl, fun _ _ _ _ _ _ _ us hl => match us, hl with | [_, _], _ => rfl⟩
theorem ab_mul : b_mul.ast = defBody s_mul ∧ d_mul.Bind := ⟨rfl, fun _ _ _ _ _ _ _ us hl => match us, hl with | [_, _], _ => rfl⟩
theorem ab_div : b_div.ast = defBody s_div ∧ d_div.Bind := ⟨rfl, fun _ _ _ _ _ _ _ us hl => match us, hl with | [_, _], _ => rfl⟩
theorem ab_total : b_total.ast = defBody s_total ∧ d_total.Bind := ⟨rfl, fun _ _ _ _ _ _ _ us hl => match us, hl with | [_], _ => rfl⟩
theorem ab_told_integers : b_told_integers.ast = defBody s_told_integers ∧ d_told_integers.Bind := ⟨rfl, fun _ _ _ _ _ _ _ us hl => match us, hl with | [_], _ => rfl⟩
theorem ab_worth_at_lines : b_worth_at_lines.ast = defBody s_worth_at_lines ∧ d_worth_at_lines.Bind := ⟨rfl, fun _ _ _ _ _ _ _ us hl => match us, hl with | [_, _], _ => rfl⟩
theorem ab_is_on : b_is_on.ast = defBody s_is_on ∧ d_is_on.Bind := ⟨rfl, fun _ _ _ _ _ _ _ us hl => match us, hl with | [_, _], _ => rfl⟩
theorem ab_double_area : b_double_area.ast = defBody s_double_area ∧ d_double_area.Bind := ⟨rfl, fun _ _ _ _ _ _ _ us hl => match us, hl with | [_, _, _], _ => rfl⟩
theorem ab_joined : b_joined.ast = defBody s_joined ∧ d_joined.Bind := ⟨rfl, fun _ _ _ _ _ _ _ us hl => match us, hl with | [_, _], _ => rfl⟩
theorem ab_met : b_met.ast = defBody s_met ∧ d_met.Bind := ⟨rfl, fun _ _ _ _ _ _ _ us hl => match us, hl with | [_, _], _ => rfl⟩
theorem ab_line_through : b_line_through.ast = defBody s_line_through ∧ d_line_through.Bind := ⟨rfl, fun _ _ _ _ _ _ _ us hl => match us, hl with | [_, _, _], _ => rfl⟩
theorem ab_upright_through : b_upright_through.ast = defBody s_upright_through ∧ d_upright_through.Bind := ⟨rfl, fun _ _ _ _ _ _ _ us hl => match us, hl with | [_, _], _ => rfl⟩
theorem ab_foot : b_foot.ast = defBody s_foot ∧ d_foot.Bind := ⟨rfl, fun _ _ _ _ _ _ _ us hl => match us, hl with | [_, _], _ => rfl⟩
theorem ab_mirrored : b_mirrored.ast = defBody s_mirrored ∧ d_mirrored.Bind := ⟨rfl, fun _ _ _ _ _ _ _ us hl => match us, hl with | [_, _], _ => rfl⟩
theorem ab_middle : b_middle.ast = defBody s_middle ∧ d_middle.Bind := ⟨rfl, fun _ _ _ _ _ _ _ us hl => match us, hl with | [_, _], _ => rfl⟩
theorem ab_square_apart : b_square_apart.ast = defBody s_square_apart ∧ d_square_apart.Bind := ⟨rfl, fun _ _ _ _ _ _ _ us hl => match us, hl with | [_, _], _ => rfl⟩
theorem ab_told : b_told.ast = defBody s_told ∧ d_told.Bind := ⟨rfl, fun _ _ _ _ _ _ _ us hl => match us, hl with | [_], _ => rfl⟩
theorem ab_bracket : b_bracket.ast = defBody s_bracket ∧ d_bracket.Bind := ⟨rfl, fun _ _ _ _ _ _ _ us hl => match us, hl with | [_, _, _], _ => rfl⟩
theorem ab_terms : b_terms.ast = defBody s_terms ∧ d_terms.Bind := ⟨rfl, fun _ _ _ _ _ _ _ us hl => match us, hl with | [_], _ => rfl⟩
theorem ab_worth : b_worth.ast = defBody s_worth ∧ d_worth.Bind := ⟨rfl, fun _ _ _ _ _ _ _ us hl => match us, hl with | [_, _], _ => rfl⟩
theorem ab_is_of : b_is_of.ast = defBody s_is_of ∧ d_is_of.Bind := ⟨rfl, fun _ _ _ _ _ _ _ us hl => match us, hl with | [_, _], _ => rfl⟩
theorem ab_table : b_table.ast = defBody s_table ∧ d_table.Bind := ⟨rfl, fun _ _ _ _ _ _ _ us hl => match us, hl with | [_], _ => rfl⟩
theorem ab_great_number : b_great_number.ast = defBody s_great_number ∧ d_great_number.Bind := ⟨rfl, fun _ _ _ _ _ _ _ us hl => match us, hl with | [_], _ => rfl⟩
theorem ab_small_number : b_small_number.ast = defBody s_small_number ∧ d_small_number.Bind := ⟨rfl, fun _ _ _ _ _ _ _ us hl => match us, hl with | [_], _ => rfl⟩
theorem ab_kind_of : b_kind_of.ast = defBody s_kind_of ∧ d_kind_of.Bind := ⟨rfl, fun _ _ _ _ _ _ _ us hl => match us, hl with | [_], _ => rfl⟩
theorem ab_polar : b_polar.ast = defBody s_polar ∧ d_polar.Bind := ⟨rfl, fun _ _ _ _ _ _ _ us hl => match us, hl with | [_, _], _ => rfl⟩
theorem ab_projective : b_projective.ast = defBody s_projective ∧ d_projective.Bind := ⟨rfl, fun _ _ _ _ _ _ _ us hl => match us, hl with | [_], _ => rfl⟩
theorem ab_tangent : b_tangent.ast = defBody s_tangent ∧ d_tangent.Bind := ⟨rfl, fun _ _ _ _ _ _ _ us hl => match us, hl with | [_, _], _ => rfl⟩
theorem ab_small_table : b_small_table.ast = defBody s_small_table ∧ d_small_table.Bind := ⟨rfl, fun _ _ _ _ _ _ _ us hl => match us, hl with | [_], _ => rfl⟩
theorem ab_dual : b_dual.ast = defBody s_dual ∧ d_dual.Bind := ⟨rfl, fun _ _ _ _ _ _ _ us hl => match us, hl with | [_], _ => rfl⟩
theorem ab_worth_at_duals : b_worth_at_duals.ast = defBody s_worth_at_duals ∧ d_worth_at_duals.Bind := ⟨rfl, fun _ _ _ _ _ _ _ us hl => match us, hl with | [_, _], _ => rfl⟩
theorem ab_is_tangent : b_is_tangent.ast = defBody s_is_tangent ∧ d_is_tangent.Bind := ⟨rfl, fun _ _ _ _ _ _ _ us hl => match us, hl with | [_, _], _ => rfl⟩
theorem ab_conic_of : b_conic_of.ast = defBody s_conic_of ∧ d_conic_of.Bind := ⟨rfl, fun _ _ _ _ _ _ _ us hl => match us, hl with | [_, _, _], _ => rfl⟩
theorem ab_is_focus : b_is_focus.ast = defBody s_is_focus ∧ d_is_focus.Bind := ⟨rfl, fun _ _ _ _ _ _ _ us hl => match us, hl with | [_, _], _ => rfl⟩
theorem ab_parabola_focus : b_parabola_focus.ast = defBody s_parabola_focus ∧ d_parabola_focus.Bind := ⟨rfl, fun _ _ _ _ _ _ _ us hl => match us, hl with | [_], _ => rfl⟩
theorem ab_rim_of : b_rim_of.ast = defBody s_rim_of ∧ d_rim_of.Bind := ⟨rfl, fun _ _ _ _ _ _ _ us hl => match us, hl with | [_, _], _ => rfl⟩
theorem ab_is_triangle : b_is_triangle.ast = defBody s_is_triangle ∧ d_is_triangle.Bind := ⟨rfl, fun _ _ _ _ _ _ _ us hl => match us, hl with | [_], _ => rfl⟩
theorem ab_across : b_across.ast = defBody s_across ∧ d_across.Bind := ⟨rfl, fun _ _ _ _ _ _ _ us hl => match us, hl with | [_, _], _ => rfl⟩
theorem ab_round_centre : b_round_centre.ast = defBody s_round_centre ∧ d_round_centre.Bind := ⟨rfl, fun _ _ _ _ _ _ _ us hl => match us, hl with | [_], _ => rfl⟩
theorem ab_round_of : b_round_of.ast = defBody s_round_of ∧ d_round_of.Bind := ⟨rfl, fun _ _ _ _ _ _ _ us hl => match us, hl with | [_], _ => rfl⟩
theorem ab__law_gcd : b__law_gcd.ast = defBody s__law_gcd ∧ d__law_gcd.Bind := ⟨rfl, fun _ _ _ _ _ _ _ us hl => match us, hl with | [_, _], _ => rfl⟩
theorem ab__law_frac : b__law_frac.ast = defBody s__law_frac ∧ d__law_frac.Bind := ⟨rfl, fun _ _ _ _ _ _ _ us hl => match us, hl with | [_, _], _ => rfl⟩
theorem ab__law_add : b__law_add.ast = defBody s__law_add ∧ d__law_add.Bind := ⟨rfl, fun _ _ _ _ _ _ _ us hl => match us, hl with | [_, _], _ => rfl⟩
theorem ab__law_sub : b__law_sub.ast = defBody s__law_sub ∧ d__law_sub.Bind := ⟨rfl, fun _ _ _ _ _ _ _ us hl => match us, hl with | [_, _], _ => rfl⟩
theorem ab__law_mul : b__law_mul.ast = defBody s__law_mul ∧ d__law_mul.Bind := ⟨rfl, fun _ _ _ _ _ _ _ us hl => match us, hl with | [_, _], _ => rfl⟩
theorem ab__law_div : b__law_div.ast = defBody s__law_div ∧ d__law_div.Bind := ⟨rfl, fun _ _ _ _ _ _ _ us hl => match us, hl with | [_, _], _ => rfl⟩
theorem ab__law_told : b__law_told.ast = defBody s__law_told ∧ d__law_told.Bind := ⟨rfl, fun _ _ _ _ _ _ _ us hl => match us, hl with | [_], _ => rfl⟩
theorem ab__law_told_fracs : b__law_told_fracs.ast = defBody s__law_told_fracs ∧ d__law_told_fracs.Bind := ⟨rfl, fun _ _ _ _ _ _ _ us hl => match us, hl with | [_], _ => rfl⟩
theorem ab__law_fraction : b__law_fraction.ast = defBody s__law_fraction ∧ d__law_fraction.Bind := ⟨rfl, fun _ _ _ _ _ _ _ us hl => match us, hl with | [_, _, _], _ => rfl⟩
theorem ab__law_place : b__law_place.ast = defBody s__law_place ∧ d__law_place.Bind := ⟨rfl, fun _ _ _ _ _ _ _ us hl => match us, hl with | [_, _, _], _ => rfl⟩
def ds : List FD := [d_lowest, d_add, d_sub, d_mul, d_div, d_total, d_told_integers, d_worth_at_lines, d_is_on, d_double_area, d_joined, d_met, d_line_through, d_upright_through, d_foot, d_mirrored, d_middle, d_square_apart, d_told, d_bracket, d_terms, d_worth, d_is_of, d_table, d_great_number, d_small_number, d_kind_of, d_polar, d_projective, d_tangent, d_small_table, d_dual, d_worth_at_duals, d_is_tangent, d_conic_of, d_is_focus, d_parabola_focus, d_rim_of, d_is_triangle, d_across, d_round_centre, d_round_of, d__law_gcd, d__law_frac, d__law_add, d__law_sub, d__law_mul, d__law_div, d__law_told, d__law_told_fracs, d__law_fraction, d__law_place]
theorem rows : rowOk ["_law_draw"] ds = true := by decide +kernel
theorem looks : lookAll T0 ["_law_draw"] ds = true := by decide +kernel
theorem abs_ : ∀ d ∈ ds, d.b.ast = defBody d.st ∧ d.Bind := by
  intro d hd
  simp only [ds, List.mem_cons, List.not_mem_nil, or_false] at hd
  rcases hd with rfl | rfl | rfl | rfl | rfl | rfl | rfl | rfl | rfl | rfl | rfl | rfl | rfl | rfl | rfl | rfl | rfl | rfl | rfl | rfl | rfl | rfl | rfl | rfl | rfl | rfl | rfl | rfl | rfl | rfl | rfl | rfl | rfl | rfl | rfl | rfl | rfl | rfl | rfl | rfl | rfl | rfl | rfl | rfl | rfl | rfl | rfl | rfl | rfl | rfl | rfl | rfl
  · exact ab_lowest
  · exact ab_add
  · exact ab_sub
  · exact ab_mul
  · exact ab_div
  · exact ab_total
  · exact ab_told_integers
  · exact ab_worth_at_lines
  · exact ab_is_on
  · exact ab_double_area
  · exact ab_joined
  · exact ab_met
  · exact ab_line_through
  · exact ab_upright_through
  · exact ab_foot
  · exact ab_mirrored
  · exact ab_middle
  · exact ab_square_apart
  · exact ab_told
  · exact ab_bracket
  · exact ab_terms
  · exact ab_worth
  · exact ab_is_of
  · exact ab_table
  · exact ab_great_number
  · exact ab_small_number
  · exact ab_kind_of
  · exact ab_polar
  · exact ab_projective
  · exact ab_tangent
  · exact ab_small_table
  · exact ab_dual
  · exact ab_worth_at_duals
  · exact ab_is_tangent
  · exact ab_conic_of
  · exact ab_is_focus
  · exact ab_parabola_focus
  · exact ab_rim_of
  · exact ab_is_triangle
  · exact ab_across
  · exact ab_round_centre
  · exact ab_round_of
  · exact ab__law_gcd
  · exact ab__law_frac
  · exact ab__law_add
  · exact ab__law_sub
  · exact ab__law_mul
  · exact ab__law_div
  · exact ab__law_told
  · exact ab__law_told_fracs
  · exact ab__law_fraction
  · exact ab__law_place
abbrev G0 : Str → Option W := fun _ => none
noncomputable def F : Str → List W → DS → Option (W × DS) := prog G0 baseF ds
theorem F_draw : F "_law_draw" = drawF := prog_keep rows (by simp)
theorem F_lowest : F "lowest" = evF F G0 d_lowest.ps.length d_lowest.N.length b_lowest := prog_eq rows d_lowest (by simp [ds])
theorem F_add : F "add" = evF F G0 d_add.ps.length d_add.N.length b_add := prog_eq rows d_add (by simp [ds])
theorem F_sub : F "sub" = evF F G0 d_sub.ps.length d_sub.N.length b_sub := prog_eq rows d_sub (by simp [ds])
theorem F_mul : F "mul" = evF F G0 d_mul.ps.length d_mul.N.length b_mul := prog_eq rows d_mul (by simp [ds])
theorem F_div : F "div" = evF F G0 d_div.ps.length d_div.N.length b_div := prog_eq rows d_div (by simp [ds])
theorem F_total : F "total" = evF F G0 d_total.ps.length d_total.N.length b_total := prog_eq rows d_total (by simp [ds])
theorem F_told_integers : F "told_integers" = evF F G0 d_told_integers.ps.length d_told_integers.N.length b_told_integers := prog_eq rows d_told_integers (by simp [ds])
theorem F_worth_at_lines : F "worth_at_lines" = evF F G0 d_worth_at_lines.ps.length d_worth_at_lines.N.length b_worth_at_lines := prog_eq rows d_worth_at_lines (by simp [ds])
theorem F_is_on : F "is_on" = evF F G0 d_is_on.ps.length d_is_on.N.length b_is_on := prog_eq rows d_is_on (by simp [ds])
theorem F_double_area : F "double_area" = evF F G0 d_double_area.ps.length d_double_area.N.length b_double_area := prog_eq rows d_double_area (by simp [ds])
theorem F_joined : F "joined" = evF F G0 d_joined.ps.length d_joined.N.length b_joined := prog_eq rows d_joined (by simp [ds])
theorem F_met : F "met" = evF F G0 d_met.ps.length d_met.N.length b_met := prog_eq rows d_met (by simp [ds])
theorem F_line_through : F "line_through" = evF F G0 d_line_through.ps.length d_line_through.N.length b_line_through := prog_eq rows d_line_through (by simp [ds])
theorem F_upright_through : F "upright_through" = evF F G0 d_upright_through.ps.length d_upright_through.N.length b_upright_through := prog_eq rows d_upright_through (by simp [ds])
theorem F_foot : F "foot" = evF F G0 d_foot.ps.length d_foot.N.length b_foot := prog_eq rows d_foot (by simp [ds])
theorem F_mirrored : F "mirrored" = evF F G0 d_mirrored.ps.length d_mirrored.N.length b_mirrored := prog_eq rows d_mirrored (by simp [ds])
theorem F_middle : F "middle" = evF F G0 d_middle.ps.length d_middle.N.length b_middle := prog_eq rows d_middle (by simp [ds])
theorem F_square_apart : F "square_apart" = evF F G0 d_square_apart.ps.length d_square_apart.N.length b_square_apart := prog_eq rows d_square_apart (by simp [ds])
theorem F_told : F "told" = evF F G0 d_told.ps.length d_told.N.length b_told := prog_eq rows d_told (by simp [ds])
theorem F_bracket : F "bracket" = evF F G0 d_bracket.ps.length d_bracket.N.length b_bracket := prog_eq rows d_bracket (by simp [ds])
theorem F_terms : F "terms" = evF F G0 d_terms.ps.length d_terms.N.length b_terms := prog_eq rows d_terms (by simp [ds])
theorem F_worth : F "worth" = evF F G0 d_worth.ps.length d_worth.N.length b_worth := prog_eq rows d_worth (by simp [ds])
theorem F_is_of : F "is_of" = evF F G0 d_is_of.ps.length d_is_of.N.length b_is_of := prog_eq rows d_is_of (by simp [ds])
theorem F_table : F "table" = evF F G0 d_table.ps.length d_table.N.length b_table := prog_eq rows d_table (by simp [ds])
theorem F_great_number : F "great_number" = evF F G0 d_great_number.ps.length d_great_number.N.length b_great_number := prog_eq rows d_great_number (by simp [ds])
theorem F_small_number : F "small_number" = evF F G0 d_small_number.ps.length d_small_number.N.length b_small_number := prog_eq rows d_small_number (by simp [ds])
theorem F_kind_of : F "kind_of" = evF F G0 d_kind_of.ps.length d_kind_of.N.length b_kind_of := prog_eq rows d_kind_of (by simp [ds])
theorem F_polar : F "polar" = evF F G0 d_polar.ps.length d_polar.N.length b_polar := prog_eq rows d_polar (by simp [ds])
theorem F_projective : F "projective" = evF F G0 d_projective.ps.length d_projective.N.length b_projective := prog_eq rows d_projective (by simp [ds])
theorem F_tangent : F "tangent" = evF F G0 d_tangent.ps.length d_tangent.N.length b_tangent := prog_eq rows d_tangent (by simp [ds])
theorem F_small_table : F "small_table" = evF F G0 d_small_table.ps.length d_small_table.N.length b_small_table := prog_eq rows d_small_table (by simp [ds])
theorem F_dual : F "dual" = evF F G0 d_dual.ps.length d_dual.N.length b_dual := prog_eq rows d_dual (by simp [ds])
theorem F_worth_at_duals : F "worth_at_duals" = evF F G0 d_worth_at_duals.ps.length d_worth_at_duals.N.length b_worth_at_duals := prog_eq rows d_worth_at_duals (by simp [ds])
theorem F_is_tangent : F "is_tangent" = evF F G0 d_is_tangent.ps.length d_is_tangent.N.length b_is_tangent := prog_eq rows d_is_tangent (by simp [ds])
theorem F_conic_of : F "conic_of" = evF F G0 d_conic_of.ps.length d_conic_of.N.length b_conic_of := prog_eq rows d_conic_of (by simp [ds])
theorem F_is_focus : F "is_focus" = evF F G0 d_is_focus.ps.length d_is_focus.N.length b_is_focus := prog_eq rows d_is_focus (by simp [ds])
theorem F_parabola_focus : F "parabola_focus" = evF F G0 d_parabola_focus.ps.length d_parabola_focus.N.length b_parabola_focus := prog_eq rows d_parabola_focus (by simp [ds])
theorem F_rim_of : F "rim_of" = evF F G0 d_rim_of.ps.length d_rim_of.N.length b_rim_of := prog_eq rows d_rim_of (by simp [ds])
theorem F_is_triangle : F "is_triangle" = evF F G0 d_is_triangle.ps.length d_is_triangle.N.length b_is_triangle := prog_eq rows d_is_triangle (by simp [ds])
theorem F_across : F "across" = evF F G0 d_across.ps.length d_across.N.length b_across := prog_eq rows d_across (by simp [ds])
theorem F_round_centre : F "round_centre" = evF F G0 d_round_centre.ps.length d_round_centre.N.length b_round_centre := prog_eq rows d_round_centre (by simp [ds])
theorem F_round_of : F "round_of" = evF F G0 d_round_of.ps.length d_round_of.N.length b_round_of := prog_eq rows d_round_of (by simp [ds])
theorem F__law_gcd : F "_law_gcd" = evF F G0 d__law_gcd.ps.length d__law_gcd.N.length b__law_gcd := prog_eq rows d__law_gcd (by simp [ds])
theorem F__law_frac : F "_law_frac" = evF F G0 d__law_frac.ps.length d__law_frac.N.length b__law_frac := prog_eq rows d__law_frac (by simp [ds])
theorem F__law_add : F "_law_add" = evF F G0 d__law_add.ps.length d__law_add.N.length b__law_add := prog_eq rows d__law_add (by simp [ds])
theorem F__law_sub : F "_law_sub" = evF F G0 d__law_sub.ps.length d__law_sub.N.length b__law_sub := prog_eq rows d__law_sub (by simp [ds])
theorem F__law_mul : F "_law_mul" = evF F G0 d__law_mul.ps.length d__law_mul.N.length b__law_mul := prog_eq rows d__law_mul (by simp [ds])
theorem F__law_div : F "_law_div" = evF F G0 d__law_div.ps.length d__law_div.N.length b__law_div := prog_eq rows d__law_div (by simp [ds])
theorem F__law_told : F "_law_told" = evF F G0 d__law_told.ps.length d__law_told.N.length b__law_told := prog_eq rows d__law_told (by simp [ds])
theorem F__law_told_fracs : F "_law_told_fracs" = evF F G0 d__law_told_fracs.ps.length d__law_told_fracs.N.length b__law_told_fracs := prog_eq rows d__law_told_fracs (by simp [ds])
theorem F__law_fraction : F "_law_fraction" = evF F G0 d__law_fraction.ps.length d__law_fraction.N.length b__law_fraction := prog_eq rows d__law_fraction (by simp [ds])
theorem F__law_place : F "_law_place" = evF F G0 d__law_place.ps.length d__law_place.N.length b__law_place := prog_eq rows d__law_place (by simp [ds])
section
variable {ts : List Addr} {P : Program} {w : World} {K : PySem.W.Frag} {mg : Str → Option Value} {base : Heap} {F : Str → List W → DS → Option (W × DS)}
abbrev d__law_draw : FD := ⟨"_law_draw", s__law_draw, .nil, ["state", "many"], ["state", "many", "cells", "value", "mixed"], false⟩
theorem boot_int : bootBuiltins "int" = some (.type "int") := by decide +kernel
theorem boot_abs : bootBuiltins "abs" = some (.builtin "abs") := by decide +kernel
theorem ixN_nat {n j : Nat} (hj : j < n) : ixN n (j : Int) = some j := by
  unfold ixN; rw [if_pos (by omega), if_pos (by omega)]; simp
theorem seqIndex_cons0 (n : Nat) : seqIndex? 0 (n + 1) = some 0 := (ixN_seq (ixN_nat (n := n + 1) (j := 0) (by omega))).1
theorem scDraw : FnScope ["state", "many", "cells", "value", "mixed"] ["state", "many"] (defScope s__law_draw) := ⟨rfl, rfl, rfl, by decide +kernel, rfl, by decide +kernel, by decide +kernel⟩
theorem ok_draw (hF : F "_law_draw" = drawF) {f : Addr} {fd : FuncData} {k : Nat} (FU : Fun K "_law_draw" "_law_draw" s__law_draw f fd) (hm : mg "_law_draw" = some (.ref f)) (ml : mg "len" = none) (mi : mg "int" = none) (hbi : d__law_draw.Bind) : Lib (mkD K ts) F P w K mg base (k + 1) "_law_draw" := by
  refine ⟨f, fd, ["state", "many"], ?_, hm, FU.kp, FU.binds (hbi _), fun ws s r e => ?_⟩
  · refine FU.ok scDraw (fun vs H Q E h => ?_) (fun cdv A outer s H vs Q E hr h => ?_)
    · obtain ⟨a, c, O, ws, s, w, s', hl, r, _⟩ := h
      rw [← r.length, hl]
    · obtain ⟨hs, c, O, ws, s0, w0, s1, hl, r, hR, hd, st, e, q⟩ := h
      rw [hF] at e
      unfold drawF at e
      split at e
      · rename_i m
        split at e
        · rename_i hm0
          obtain ⟨hm1, hm2⟩ := hm0
          cases e
          obtain ⟨v1, vs1, rfl, r1, r2⟩ := r
          obtain ⟨v2, vs2, rfl, r3, r4⟩ := r2
          cases r4; cases r3; cases r1
          obtain ⟨st, tabs⟩ := st
          change DRel hs c s0 H at st
          obtain ⟨hne, h1, h2, h3, h4⟩ := st
          refine ⟨_, pss_cons (ps_set (i := 2) scDraw.nd rfl (.inl rfl) (pe_ix ix_list (pv 0) pe_int (fun _ _ => rfl)))
            (pss_cons (ps_while PassesOwn.never (PW.pt (pw_and (pt_cmpR op_gt (pe_callB call_len_seq (by rfl) ml PySem.boot_len (pa_cons (pv 2) pa_nil)) pe_int (nomark _)) (pw_and1 (pt_cmpR op_eq (pe_ix ix_list (pv 2) pe_int (fun _ _ => rfl)) pe_int (nomark _))))) (pss_one (ps_expr (pe_bm PySem.F.plainAttrs_list PySem.F.slot_list_pop PySem.F.type_list_pop mt_popAt (pv 2) (pa_cons pe_int pa_nil)))))
            (pss_cons (ps_if (pt_cmpR op_gt (pe_callB call_len_seq (by rfl) ml PySem.boot_len (pa_cons (pv 2) pa_nil)) pe_int (nomark _))
              (pss_cons (ps_set (i := 3) scDraw.nd rfl (.inl rfl) (pe_ix ix_list (pv 2) pe_int (fun _ _ => rfl)))
                (pss_cons (ps_asg (pe_op op_fdiv (pv 3) (pv 1)) (pg_sub (pv 2) pe_int set_list))
                (pss_one (ps_ret (pe_op op_mod (pe_callTy call_int1 (by rfl) mi boot_int (pa_cons (pv 3) pa_nil)) (pv 1))))))
              pss_nil)
            (pss_cons (ps_set (i := 4) scDraw.nd rfl (.inl rfl) (pe_op op_mod (pe_callTy call_int1 (by rfl) mi boot_int (pa_cons (pe_op op_add (pe_op op_mul (pe_ix ix_list (pv 0) pe_int (fun _ _ => rfl)) pe_int) pe_int) pa_nil)) pe_int))
            (pss_cons (ps_asg (pv 4) (pg_sub (pv 0) pe_int set_list))
            (pss_one (ps_ret (pe_op op_mod (pe_callTy call_int1 (by rfl) mi boot_int (pa_cons (pe_op op_fdiv (pv 4) pe_int) pa_nil)) (pv 1)))))))), ?_⟩
          refine ⟨.ref hs, rfl, hs, _, 0, .ref c, rfl, rfl, .inl (.inl h1), rfl, ?_⟩
          refine ⟨fun n σ H' => ∃ cs, σ = [some (.ref hs), some (.int m), some (.ref c), none, none] ∧ H' hs = some (.lst [.ref c, .int s0.seed]) ∧ H' c = some (.lst (cs.map V.int)) ∧ stripz cs = stripz s0.cells ∧ n = cs.length ∧ Ext (mkD K ts hs c) H H',
            ⟨_, s0.cells, rfl, h1, h2, rfl, rfl, Ext.refl⟩, fun n σ H1 hW => ?_⟩
          obtain ⟨cs, rfl, g1, g2, g3, rfl, g4⟩ := hW
          have hC : SqL K H1 c (cs.map V.int) := .inl (.inl g2)
          have hS : SqL K H1 hs [.ref c, .int s0.seed] := .inl (.inl g1)
          refine ⟨.ref c, rfl, c, _, rfl, .inl hC, _, _, rfl, rfl, _, rfl, ?_⟩
          cases cs with
          | nil =>
            rw [if_neg (by simp)]
            refine Eq.mpr (if_neg Bool.false_ne_true) ?_
            refine ⟨.ref c, rfl, c, _, rfl, .inl hC, _, _, rfl, rfl, _, rfl, ?_⟩
            refine Eq.mpr (if_neg (by simp)) ?_
            refine ⟨.ref hs, rfl, hs, _, 1, .int s0.seed, rfl, rfl, hS, rfl, ?_⟩
            refine ⟨_, _, rfl, rfl, .inl ⟨by omega, by omega⟩, _, _, rfl, rfl, .inl ⟨_, rfl, _, _, rfl, rfl, (show (0 : Int) < 2147483647 from by decide), ?_⟩⟩
            refine ⟨_, rfl, .ref hs, rfl, hs, _, 1, 1, rfl, rfl, g1, rfl, ?_⟩
            refine ⟨_, rfl, _, _, rfl, rfl, ⟨by decide, by decide⟩, .inl ⟨_, rfl, .int m, rfl, _, _, rfl, rfl, hm1, ?_⟩⟩
            obtain ⟨d1, d2, d3⟩ := drw_nil (s := s0) (m := m) (by rw [← g3]; rfl)
            rw [d1] at q
            refine q _ _ (ext_write g4 (.inl rfl) g1) ⟨⟨hne, ?_, ?_, (drw s0 m).2.sd.1⟩, fun P hP => tabG_ext (ext_write g4 (.inl rfl) g1) (tabs P hP)⟩ rfl
            · rw [upd_same, d3]; rfl
            · rw [upd_ne hne.symm, d2]; exact g2
          | cons v r =>
            rw [if_pos (by simp; try omega)]
            refine ⟨.ref c, rfl, c, _, 0, .int v, rfl, rfl, hC, atI_nat (j := 0) rfl, ?_⟩
            refine ⟨rfl, _, rfl, ?_⟩
            by_cases hv : v = 0
            · refine Eq.mpr (if_pos (by simp [hv])) ?_
              refine ⟨fun σ H' => ∃ cs, σ = [some (.ref hs), some (.int m), some (.ref c), none, none] ∧ H' hs = some (.lst [.ref c, .int s0.seed]) ∧ H' c = some (.lst (cs.map V.int)) ∧ stripz cs = stripz s0.cells ∧ r.length = cs.length ∧ Ext (mkD K ts hs c) H H', fun σ' H' hN => ?_, ?_⟩
              · obtain ⟨cs, h1, h2, h3, h4, h5, h6⟩ := hN
                exact ⟨r.length, by simp, cs, h1, h2, h3, h4, h5, h6⟩
              · refine ⟨.ref c, rfl, .inl ⟨rfl, _, hC⟩, c, _, 0, 0, .int v, rfl, rfl, g2, by decide, by decide, seqIndex_cons0 _, rfl, r, rfl, ?_, ?_, ?_, rfl, ext_write g4 (.inr rfl) g2⟩
                · rw [upd_ne hne]; exact g1
                · rw [upd_same]; rfl
                · rw [← g3]
                  simp [stripz, hv]
            · refine Eq.mpr (if_neg (by simp [hv])) ?_
              refine ⟨.ref c, rfl, c, _, rfl, .inl hC, _, _, rfl, rfl, _, rfl, ?_⟩
              refine Eq.mpr (if_pos (by simp; try omega)) ?_
              refine ⟨.ref c, rfl, c, _, 0, .int v, rfl, rfl, hC, atI_nat (j := 0) rfl, ?_⟩
              refine ⟨_, rfl, .int m, rfl, _, _, rfl, rfl, ⟨hm1, hm2⟩, .ref c, rfl, c, _, 0, 0, rfl, rfl, g2, ixN_nat (j := 0) (by simp), ?_⟩
              refine ⟨_, rfl, .inl ⟨_, rfl, .int m, rfl, _, _, rfl, rfl, hm1, ?_⟩⟩
              obtain ⟨d1, d2, d3⟩ := drw_cons (s := s0) (m := m) (v := v) (r := r) (by rw [← g3, stripz_cons hv]) hm1
              rw [d1] at q
              refine q _ _ (ext_write g4 (.inr rfl) g2) ⟨⟨hne, ?_, ?_, (drw s0 m).2.sd.1⟩, fun P hP => tabG_ext (ext_write g4 (.inr rfl) g2) (tabs P hP)⟩ rfl
              · rw [upd_ne hne, d3]; exact g1
              · rw [upd_same, d2]; rfl
        · cases e
      · cases e
  · rw [hF] at e
    unfold drawF at e
    split at e
    · rfl
    · cases e
abbrev d__law_state : FD := ⟨"_law_state", s__law_state, .nil, ["script"], ["script", "seed", "cell"], false⟩
theorem scState : FnScope ["script", "seed", "cell"] ["script"] (defScope s__law_state) := ⟨rfl, rfl, rfl, by decide +kernel, rfl, by decide +kernel, by decide +kernel⟩
theorem ok_state {f : Addr} {fd : FuncData} {k : Nat} (FU : Fun K "_law_state" "_law_state" s__law_state f fd) (mi : mg "int" = none) (ma : mg "abs" = none) : FnOk P w K mg base CX0 (k + 1) f fd ["script"] (spState K) := by
  refine FU.ok scState (fun vs H Q E h => ?_) (fun cdv A outer s H vs Q E hr h => ?_)
  · obtain ⟨a, ns, rfl, _⟩ := h
    rfl
  · obtain ⟨a, ns, rfl, hS, hlen, q⟩ := h
    refine ⟨_, pss_cons (ps_set (i := 1) scState.nd rfl (.inl rfl) pe_int)
      (pss_cons (ps_for PassesOwn.never rfl (pi_list (pv 0)) (pg_name (i := 2) scState.nd rfl (.inl rfl))
        (pss_one (ps_set (i := 1) scState.nd rfl (.inl rfl) (pe_op op_mod (pe_callTy call_int1 (by rfl) mi boot_int (pa_cons (pe_op op_add (pe_op op_mul (pv 1) pe_int) (pv 2)) pa_nil)) pe_int))))
      (pss_one (ps_ret (pe_lst (pa_cons (pe_lc (own := [("cell", 2)]) rfl scState.nd (pi_list (pv 0)) (blk_ok (.self fun _ => rfl) (show blkB ["script", "seed", "cell"] (defScope s__law_state) _ [("cell", 2)] = true from by decide +kernel)) (fun s H C cl fp => pg_name (i := 2) scState.nd rfl (.inl rfl)) (fun s H C cl fp => pts_nil)
        (fun s H C cl fp => pe_callB call_abs (by rfl) ma boot_abs (pa_cons (pv 2) pa_nil))) (pa_cons (pe_op op_add (pv 1) pe_int) pa_nil)))))), ?_⟩
    refine ⟨.ref a, rfl, a, rfl, ⟨_, hS⟩, fun i m σ H1 => ∃ y, σ = [some (.ref a), some (.int (seedOf (ns.take i) 7)), y] ∧ i + m = ns.length ∧ H1 = H, ⟨ns.length, none, rfl, by omega, rfl⟩, fun i m σ H1 hW => ?_⟩
    obtain ⟨y, rfl, em, rfl⟩ := hW
    by_cases hi : i < ns.length
    · have g : (ns.map V.int)[i]? = some (.int ns[i]) := by
        rw [List.getElem?_map, List.getElem?_eq_getElem hi]; rfl
      refine .inr ⟨⟨_, _, hS, g⟩, fun σ' H' => ∃ y, σ' = [some (.ref a), some (.int (seedOf (ns.take (i + 1)) 7)), y] ∧ H' = H1, fun σ' H' hN => ?_, fun v H' hy => ?_⟩
      · obtain ⟨y, e1, e2⟩ := hN
        exact ⟨m - 1, by omega, y, e1, by omega, e2⟩
      · obtain ⟨rfl, fv⟩ := hy
        have ev : v = .int ns[i] := Option.some.inj ((fv _ hS).symm.trans g)
        subst ev
        have hb := seedOf_lt (ns.take i) 7 (by decide) (by decide)
        refine ⟨_, rfl, _, _, rfl, rfl, .inr ⟨by decide, by decide⟩, .int ns[i], rfl, _, _, rfl, rfl, .inl ⟨_, rfl, _, _, rfl, rfl, (show (0 : Int) < 1000003 from by decide), ?_⟩⟩
        exact ⟨_, by rw [seedOf_take (List.getElem?_eq_getElem hi)]; rfl, rfl⟩
    · refine .inl ⟨⟨_, hS, by rw [List.length_map]; omega⟩, ?_⟩
      have ei : ns.take i = ns := List.take_of_length_le (by omega)
      rw [ei]
      refine ⟨.ref a, rfl, a, rfl, ⟨_, hS⟩, fun D hD => ?_⟩
      refine ⟨fun i m H2 => i + m = ns.length ∧ Same H1 H2 ∧ H2 D = some (.lst (((ns.take i).map absI).map V.int)), ⟨ns.length, by omega, same_laid hD, by rw [upd_same]; rfl⟩, fun i m H2 hW => ?_⟩
      obtain ⟨em, sm, eD⟩ := hW
      have hS2 := sm.seq hS
      by_cases hi : i < ns.length
      · have g : (ns.map V.int)[i]? = some (.int ns[i]) := by
          rw [List.getElem?_map, List.getElem?_eq_getElem hi]; rfl
        refine .inr ⟨⟨_, _, hS2, g⟩, fun H' => Same H1 H' ∧ H' D = some (.lst (((ns.take (i + 1)).map absI).map V.int)), fun H' hN => ⟨m - 1, by omega, by omega, hN⟩, fun v H' hy => ?_⟩
        obtain ⟨rfl, fv⟩ := hy
        have ev : v = .int ns[i] := Option.some.inj ((fv _ hS2).symm.trans g)
        subst ev
        refine ⟨rfl, ?_⟩
        unfold tYes
        refine Eq.mpr (if_pos rfl) ?_
        refine ⟨.int ns[i], rfl, _, rfl, _, eD, ?_, ?_, ?_⟩
        · rw [List.length_map, List.length_map, List.length_take]
          exact small1000 (by omega)
        · exact fun b o e => by rw [upd_ne (ne_of_none e hD)]; exact sm _ _ e
        · rw [upd_same, List.take_add_one, List.getElem?_eq_getElem hi, List.map_append, List.map_append]
          rfl
      · refine .inl ⟨⟨_, hS2, by rw [List.length_map]; omega⟩, ?_⟩
        have ei : ns.take i = ns := List.take_of_length_le (by omega)
        rw [ei] at eD
        have hb := seedOf_lt ns 7 (by decide) (by decide)
        refine ⟨_, rfl, _, _, rfl, rfl, (show 2 ≤ sizeLine from by decide), fun p hp => ?_⟩
        have np : D ≠ p := ne_of_none eD hp
        refine q _ p D (fun b o e => ?_) ?_ hD ⟨np.symm, upd_same, by rw [upd_ne np]; exact eD, by show 0 ≤ seedOf ns 7 + 1; omega, by show seedOf ns 7 + 1 < 2147483647; omega⟩
        · have e2 := sm b o e
          rw [upd_ne (ne_of_none e2 hp)]
          exact e2
        · cases z : H1 p with
          | none => rfl
          | some o => rw [sm _ _ z] at hp; cases hp
end

section
variable {s : DS}
@[simp] theorem x_draw {m : Int} (h : 0 < m ∧ m < 1073741824) : F "_law_draw" [.st, .int m] s = some (.int (drw s m).1, (drw s m).2) := by
  rw [F_draw]; exact if_pos h
@[simp] theorem x_lowest {p q : Int} {n : Nat} [SzI q n] (hq : q ≠ 0) (hn : n < 9000) : F "lowest" [.int p, .int q] s = some (fr ((p : Rat) / (q : Rat)), s) := by
  have o1 := fun i => (okDiv_gcd (p := p) hq hn i).1
  have o2 := fun i => (okDiv_gcd (p := p) hq hn i).2
  rw [F_lowest]
  by_cases h : 0 < q
  · simp [b_lowest, h, bin_fdiv (o1 _), low_pos (p := p) h]
  · simp [b_lowest, h, bin_fdiv (o2 _), low_neg (p := p) (q := q) (by omega)]
@[simp] theorem x_add {a b : Rat} {n m : Nat} [Sz a n] [Sz b m] (h : n + m < 8000) : F "add" [fr a, fr b] s = some (fr (a + b), s) := by
  have h1 : n + m < 1000000 := by omega
  have h2 : m + n < 1000000 := by omega
  have h3 : n + m < 9000 := by omega
  rw [F_add]
  simp [b_add, h1, h2, h3, den2, q_add']
@[simp] theorem x_sub {a b : Rat} {n m : Nat} [Sz a n] [Sz b m] (h : n + m < 8000) : F "sub" [fr a, fr b] s = some (fr (a - b), s) := by
  have h1 : n + m < 1000000 := by omega
  have h2 : m + n < 1000000 := by omega
  have h3 : n + m < 9000 := by omega
  rw [F_sub]
  simp [b_sub, h1, h2, h3, den2, q_sub']
@[simp] theorem x_mul {a b : Rat} {n m : Nat} [Sz a n] [Sz b m] (h : n + m < 8000) : F "mul" [fr a, fr b] s = some (fr (a * b), s) := by
  have h1 : n + m < 1000000 := by omega
  have h3 : n + m < 9000 := by omega
  rw [F_mul]
  simp [b_mul, h1, h3, den2, q_mul']
@[simp] theorem x_div {a b : Rat} {n m : Nat} [Sz a n] [Sz b m] (hb : b ≠ 0) (h : n + m < 8000) : F "div" [fr a, fr b] s = some (fr (a / b), s) := by
  have h1 : n + m < 1000000 := by omega
  have h3 : n + m < 9000 := by omega
  rw [F_div]
  simp [b_div, h1, x_lowest (p := a.num * b.den) (Int.mul_ne_zero (den_ne a) (num_ne hb)) h3, q_div']
@[simp] theorem x_total3 {a b c : Rat} {n m k : Nat} [Sz a n] [Sz b m] [Sz c k] (h : n + m + k < 7000) : F "total" [.lst [fr a, fr b, fr c]] s = some (fr (a + b + c), s) := by
  have h1 : 1 + n < 8000 := by omega
  have h2 : n + m < 8000 := by omega
  have h3 : n + m + 1 + k < 8000 := by omega
  rw [F_total]
  simp [b_total, turn, h1, h2, h3]
@[simp] theorem x_total0 : F "total" [.lst []] s = some (fr 0, s) := by
  rw [F_total]
  simp [b_total]
theorem x_total6 {a b c d e f : Rat} {n : Nat} [Sz a n] [Sz b n] [Sz c n] [Sz d n] [Sz e n] [Sz f n] (h : n < 1000) : F "total" [.lst [fr a, fr b, fr c, fr d, fr e, fr f]] s = some (fr (a + b + c + d + e + f), s) := by
  have h1 : 1 + n < 8000 := by omega
  have h2 : n + n < 8000 := by omega
  have h3 : n + n + 1 + n < 8000 := by omega
  have h4 : n + n + 1 + n + 1 + n < 8000 := by omega
  have h5 : n + n + 1 + n + 1 + n + 1 + n < 8000 := by omega
  have h6 : n + n + 1 + n + 1 + n + 1 + n + 1 + n < 8000 := by omega
  rw [F_total]
  simp [b_total, turn, h1, h2, h3, h4, h5, h6]
theorem x_told_integers {l : List Rat} {n : Nat} (hs : ∀ x ∈ l, Sz x n) (hn : n * (l.length + 1) < 8900) (hl : l.length ≤ 1000) (h0 : ∃ x ∈ l, x ≠ 0) : F "told_integers" [.lst (l.map fr)] s = some (.tup ((whole l).map W.int), s) := by
  have hg := g_pos h0
  have hgl := gN_lt hs h0
  have hll := low_lt hs
  obtain ⟨i0, r0, hf⟩ := row_first h0
  have hsg : sgnI (rowI l) = decide (0 < i0) := by unfold sgnI; rw [hf]
  rw [F_told_integers]
  simp [b_told_integers]
  rw [forGo_fold fr (fun k : Nat => [Sl.val (W.lst (l.map fr)), Sl.val (W.int (k : Int)), .no, .no, .no, .no, .no, .no, .no]) (fun k x => Nat.lcm k x.den) (fun k r => (∀ x ∈ r, x ∈ l) ∧ ∃ m, k < 2 ^ m ∧ m + n * r.length = 1 + n * l.length) l 1 ?h0 ?hi ?hs]
  case h0 => rfl
  case hi => exact ⟨fun x h => h, 1, by decide, rfl⟩
  case hs =>
    intro k x r ⟨hx, m, hk, hm⟩
    have hz := hs x (hx x (List.mem_cons_self ..))
    have : SzI (k : Int) m := ⟨by simpa using hk⟩
    have : Sz x n := hz
    rw [List.length_cons, Nat.mul_succ] at hm
    rw [Nat.mul_succ] at hn
    have hp := x.den_pos
    have hgp : 0 < Nat.gcd k x.den := Nat.gcd_pos_of_pos_right _ hp
    have hgle : Nat.gcd k x.den ≤ x.den := Nat.le_of_dvd hp (Nat.gcd_dvd_right _ _)
    have hd : okDiv ((k : Int) * (x.den : Int)) ((Nat.gcd k x.den : Nat) : Int) := okDiv_lt (n := n) (by omega) (by simp only [Int.natAbs_natCast]; exact Nat.lt_of_le_of_lt hgle hz.den) (by omega)
    have hmn : m + n < 1000000 := by omega
    refine ⟨?_, fun y hy => hx y (List.mem_cons_of_mem _ hy), m + n, lcm_lt hk hz.den hp, by omega⟩
    simp [turn, hmn, bin_fdiv hd, lcm_step]
  have hlow : (l.foldl (fun k x => Nat.lcm k x.den) 1) = lowN l := rfl
  rw [hlow]
  simp
  rw [lcGo_all (enc' := W.int) (g := fun x : Rat => x.num * ((lowN l / x.den : Nat) : Int)) ?hc]
  case hc =>
    intro x hx
    have : Sz x n := hs x hx
    have e : (lowN l / x.den) < 2 ^ (1 + n * l.length) := Nat.lt_of_le_of_lt (Nat.div_le_self _ _) hll
    have : SzI ((lowN l : Int) / (x.den : Int)) (1 + n * l.length) := ⟨by rw [← Int.natCast_ediv, Int.natAbs_natCast]; exact e⟩
    have hd : okDiv (lowN l : Int) (x.den : Int) := okDiv_of (n := n) (den_ne x) (by rw [Nat.mul_succ] at hn; omega)
    have hb : n + (1 + n * l.length) < 1000000 := by rw [Nat.mul_succ] at hn; omega
    simp [lcItem, bin_fdiv hd, Int.fdiv_eq_ediv_of_nonneg, hb]
  have hrow : (l.map fun x : Rat => x.num * ((lowN l / x.den : Nat) : Int)) = rowI l := rfl
  have hrl : (rowI l).length ≤ 1000 := by unfold rowI; simpa using hl
  rw [hrow]
  generalize hR : rowI l = R at *
  simp [hl, hrl]
  rw [forGo_fold W.int (fun k : Nat => [Sl.val (W.lst (l.map fr)), Sl.val (W.int (lowN l : Int)), .no, .no, .val (.lst (R.map W.int)), .val (.int (k : Int)), .no, .no, .no]) (fun g i => Nat.gcd g i.natAbs) (fun _ _ => True) R 0 ?h0 ?hi ?hs]
  case h0 => rfl
  case hi => trivial
  case hs =>
    intro k i r _
    exact ⟨by simp [turn], trivial⟩
  have hgN : (R.foldl (fun g i => Nat.gcd g i.natAbs) 0) = gN R := rfl
  rw [hgN]
  simp [hrl]
  rw [lcGo_map (enc := W.int) (g := fun i : Int => if i = 0 then none else some (W.int i)) ?hc]
  case hc =>
    intro i hi
    by_cases h : i = 0 <;> simp [lcItem, h]
  rw [filt_int, hf]
  simp [hrl]
  rw [lcGo_all (enc' := W.int) (g := fun i : Int => (if sgnI R then i else -i) / (gN R : Int)) ?hc]
  case hc =>
    intro i hi
    have hd : ∀ i, okDiv i (gN R : Int) := fun i => okDiv_lt (n := 1 + n * (l.length + 1)) (by omega) (by simpa using hgl) (by omega)
    by_cases h : 0 < i0 <;> simp [lcItem, h, hsg, bin_fdiv (hd _), Int.fdiv_eq_ediv_of_nonneg]
  have hw : (R.map fun i : Int => (if sgnI R then i else -i) / (gN R : Int)) = whole l := by unfold whole; rw [hR]
  rw [hw]
  simp
theorem x_told_integers3I {a b c : Int} {n : Nat} (ha : SzI a n) (hb : SzI b n) (hc : SzI c n) (hn : n < 900) (h0 : ¬ (a = 0 ∧ b = 0 ∧ c = 0)) : ∃ (x y z : Int) (k : Rat), (∀ s, F "told_integers" [.lst [fr (a : Rat), fr (b : Rat), fr (c : Rat)]] s = some (.tup [.int x, .int y, .int z], s)) ∧ k ≠ 0 ∧ (x : Rat) = k * a ∧ (y : Rat) = k * b ∧ (z : Rat) = k * c ∧
    Nat.gcd (Nat.gcd x.natAbs y.natAbs) z.natAbs = 1 ∧ (0 < x ∨ x = 0 ∧ (0 < y ∨ y = 0 ∧ 0 < z)) ∧ SzI x n ∧ SzI y n ∧ SzI z n := by
  obtain ⟨x, y, z, k, hw, hk, e1, e2, e3, hg, hs, i1, i2, i3⟩ := whole3I ha hb hc h0
  refine ⟨x, y, z, k, fun s => ?_, hk, e1, e2, e3, hg, hs, i1, i2, i3⟩
  have key := x_told_integers (s := s) (l := [(a : Rat), (b : Rat), (c : Rat)]) (n := n + 1) (by
    intro q hq
    simp only [List.mem_cons, List.not_mem_nil, or_false] at hq
    rcases hq with rfl | rfl | rfl <;> exact inferInstance) (by simp; omega) (by simp) (by
    by_cases z1 : a = 0
    · by_cases z2 : b = 0
      · exact ⟨(c : Rat), by simp, fun z => h0 ⟨z1, z2, by exact_mod_cast z⟩⟩
      · exact ⟨(b : Rat), by simp, fun z => z2 (by exact_mod_cast z)⟩
    · exact ⟨(a : Rat), by simp, fun z => z1 (by exact_mod_cast z)⟩)
  rw [hw] at key
  exact key
theorem x_told_integers3 {a b c : Rat} {n1 n2 n3 : Nat} (ha : Sz a n1) (hb : Sz b n2) (hc : Sz c n3) (hn : n1 + n2 + n3 < 2200 ∨ (n1 < 2200 ∧ n2 < 2200 ∧ n3 < 2200)) (h0 : ¬ (a = 0 ∧ b = 0 ∧ c = 0)) : ∃ (x y z : Int) (k : Rat), (∀ s, F "told_integers" [.lst [fr a, fr b, fr c]] s = some (.tup [.int x, .int y, .int z], s)) ∧ k ≠ 0 ∧ (x : Rat) = k * a ∧ (y : Rat) = k * b ∧ (z : Rat) = k * c ∧
    Nat.gcd (Nat.gcd x.natAbs y.natAbs) z.natAbs = 1 ∧ (0 < x ∨ x = 0 ∧ (0 < y ∨ y = 0 ∧ 0 < z)) ∧ SzI x (n1 + n2 + n3) ∧ SzI y (n1 + n2 + n3) ∧ SzI z (n1 + n2 + n3) := by
  obtain ⟨x, y, z, k, hw, hk, e1, e2, e3, hg, hs, i1, i2, i3⟩ := whole3S ha hb hc h0
  refine ⟨x, y, z, k, fun s => ?_, hk, e1, e2, e3, hg, hs, i1, i2, i3⟩
  have key := x_told_integers (s := s) (l := [a, b, c]) (n := max n1 (max n2 n3)) (by
    intro q hq
    simp only [List.mem_cons, List.not_mem_nil, or_false] at hq
    rcases hq with rfl | rfl | rfl
    · exact ha.mono (by omega)
    · exact hb.mono (by omega)
    · exact hc.mono (by omega)) (by simp only [List.length_cons, List.length_nil]; omega) (by simp) (by
    by_cases z1 : a = 0
    · by_cases z2 : b = 0
      · exact ⟨c, by simp, fun z => h0 ⟨z1, z2, z⟩⟩
      · exact ⟨b, by simp, z2⟩
    · exact ⟨a, by simp, z1⟩)
  rw [hw] at key
  exact key
/-- a line's row -/
theorem x_told_integersL {a b c : Rat} {n1 n2 n3 : Nat} (ha : Sz a n1) (hb : Sz b n2) (hc : Sz c n3) (hn : n1 + n2 + n3 < 2200) (h0 : ¬ (a = 0 ∧ b = 0)) : ∃ (x y z : Int) (k : Rat), (∀ s, F "told_integers" [.lst [fr a, fr b, fr c]] s = some (.tup [.int x, .int y, .int z], s)) ∧ k ≠ 0 ∧ (x : Rat) = k * a ∧ (y : Rat) = k * b ∧ (z : Rat) = k * c ∧
    Nat.gcd (Nat.gcd x.natAbs y.natAbs) z.natAbs = 1 ∧ (0 < x ∨ x = 0 ∧ 0 < y) ∧ SzI x (n1 + n2 + n3) ∧ SzI y (n1 + n2 + n3) ∧ SzI z (n1 + n2 + n3) := by
  obtain ⟨x, y, z, k, hw, hk, e1, e2, e3, hg, hs, is⟩ := x_told_integers3 ha hb hc (.inl hn) (fun z => h0 ⟨z.1, z.2.1⟩)
  refine ⟨x, y, z, k, hw, hk, e1, e2, e3, hg, ?_, is⟩
  rcases hs with h | ⟨h1, h | ⟨h2, h3⟩⟩
  · exact .inl h
  · exact .inr ⟨h1, h⟩
  · exfalso
    apply h0
    have e1' : k * a = 0 := by rw [← e1, h1]; rfl
    have e2' : k * b = 0 := by rw [← e2, h2]; rfl
    rcases Rat.mul_eq_zero.mp e1' with h | h
    · exact absurd h hk
    · rcases Rat.mul_eq_zero.mp e2' with h' | h'
      · exact absurd h' hk
      · exact ⟨h, h'⟩
theorem x_worth_at_lines {a b c : Int} {x y : Rat} {n m : Nat} [SzI a n] [SzI b n] [SzI c n] [Sz x m] [Sz y m] (h : n + m < 1000) : F "worth_at_lines" [.tup [.int a, .int b, .int c], .tup [fr x, fr y]] s = some (fr (a * x + b * y + c), s) := by
  have h1 : n + 1 + m < 8000 := by omega
  have h2 : n + 1 + m + (n + 1 + m) + (n + 1) < 7000 := by omega
  rw [F_worth_at_lines]
  simp [b_worth_at_lines, h1, h2]
@[simp] theorem x_is_on {a b c : Int} {x y : Rat} {n m : Nat} [SzI a n] [SzI b n] [SzI c n] [Sz x m] [Sz y m] (h : n + m < 1000) : F "is_on" [.tup [.int a, .int b, .int c], .tup [fr x, fr y]] s = some (.bl (decide ((a * x + b * y + c : Rat) = 0)), s) := by
  rw [F_is_on]
  simp [b_is_on, h, x_worth_at_lines (n := n) (m := m)]
@[simp] theorem x_double_area {a b c d e f : Rat} {n1 n2 n3 n4 n5 n6 : Nat} [Sz a n1] [Sz b n2] [Sz c n3] [Sz d n4] [Sz e n5] [Sz f n6] (h : 2 * n1 + 2 * n2 + n3 + n4 + n5 + n6 < 7900) : F "double_area" [.tup [fr a, fr b], .tup [fr c, fr d], .tup [fr e, fr f]] s = some (fr ((c - a) * (f - b) - (e - a) * (d - b)), s) := by
  rw [F_double_area]
  simp (disch := first | assumption | omega | simp) [b_double_area]
theorem x_joined {a b c d : Rat} {n : Nat} [Sz a n] [Sz b n] [Sz c n] [Sz d n] (h : n < 50) (hne : ¬ (a = c ∧ b = d)) : F "joined" [.tup [fr a, fr b], .tup [fr c, fr d]] s = some (.tup ((whole [b - d, c - a, 0 - ((b - d) * a + (c - a) * b)]).map W.int), s) := by
  have h1 : n + n < 8000 := by omega
  have h2 : n + n + 1 + n < 8000 := by omega
  have h3 : n + n + 1 + n + (n + n + 1 + n) < 8000 := by omega
  have h4 : 1 + (n + n + 1 + n + (n + n + 1 + n) + 1) < 8000 := by omega
  have key := x_told_integers (s := s) (l := [b - d, c - a, 0 - ((b - d) * a + (c - a) * b)]) (n := 8 * n + 20) (by
    intro x hx
    simp only [List.mem_cons, List.not_mem_nil, or_false] at hx
    rcases hx with rfl | rfl | rfl
    · exact Sz.mono inferInstance (by omega : n + n + 1 ≤ _)
    · exact Sz.mono inferInstance (by omega : n + n + 1 ≤ _)
    · exact Sz.mono (inferInstance : Sz (0 - ((b - d) * a + (c - a) * b)) _) (by omega)) (by simp; omega) (by simp) (by
    by_cases e : b = d
    · exact ⟨c - a, by simp, by grind⟩
    · exact ⟨b - d, by simp, by grind⟩)
  rw [F_joined]
  simp at key
  simp [b_joined, h1, h2, h3, h4, key]
theorem x_joined3 {a b c d : Rat} {n1 n2 n3 n4 : Nat} [Sz a n1] [Sz b n2] [Sz c n3] [Sz d n4] (h : n1 + n2 + n3 + n4 < 600) (hne : ¬ (a = c ∧ b = d)) : ∃ (x y z : Int) (k : Rat), (∀ s, F "joined" [.tup [fr a, fr b], .tup [fr c, fr d]] s = some (.tup [.int x, .int y, .int z], s)) ∧ k ≠ 0 ∧ (x : Rat) = k * (b - d) ∧ (y : Rat) = k * (c - a) ∧ (z : Rat) = k * (0 - ((b - d) * a + (c - a) * b)) ∧
    Nat.gcd (Nat.gcd x.natAbs y.natAbs) z.natAbs = 1 ∧ (0 < x ∨ x = 0 ∧ 0 < y) ∧ SzI x (3 * n1 + 3 * n2 + 2 * n3 + 2 * n4 + 9) ∧ SzI y (3 * n1 + 3 * n2 + 2 * n3 + 2 * n4 + 9) ∧ SzI z (3 * n1 + 3 * n2 + 2 * n3 + 2 * n4 + 9) := by
  have s1 : Sz (b - d) (n2 + n4 + 1) := inferInstance
  have s2 : Sz (c - a) (n3 + n1 + 1) := inferInstance
  have s3 : Sz (0 - ((b - d) * a + (c - a) * b)) (2 * n1 + 2 * n2 + n3 + n4 + 5) := Sz.mono (inferInstance : Sz (0 - ((b - d) * a + (c - a) * b)) _) (by omega)
  obtain ⟨x, y, z, k, hw, hk, ea, eb, ec, hg, hsg, ia, ib, ic⟩ := whole3S (a := b - d) (b := c - a) (c := 0 - ((b - d) * a + (c - a) * b)) s1 s2 s3 (by
    rintro ⟨h1, h2, _⟩
    exact hne ⟨by grind, by grind⟩)
  refine ⟨x, y, z, k, fun s => ?_, hk, ea, eb, ec, hg, ?_, ia.mono (by omega), ib.mono (by omega), ic.mono (by omega)⟩
  · have key := x_told_integers (s := s) (l := [b - d, c - a, 0 - ((b - d) * a + (c - a) * b)]) (n := 2 * n1 + 2 * n2 + n3 + n4 + 5) (by
      intro q hq
      simp only [List.mem_cons, List.not_mem_nil, or_false] at hq
      rcases hq with rfl | rfl | rfl
      · exact s1.mono (by omega)
      · exact s2.mono (by omega)
      · exact s3) (by simp; omega) (by simp) (by
      by_cases e : b = d
      · exact ⟨c - a, by simp, by grind⟩
      · exact ⟨b - d, by simp, by grind⟩)
    rw [hw] at key
    clear s1 s2 s3
    have h1 : n2 + n4 < 8000 := by omega
    have h2 : n3 + n1 < 8000 := by omega
    have h3 : n2 + n4 + 1 + n1 < 8000 := by omega
    have h4 : n3 + n1 + 1 + n2 < 8000 := by omega
    have h5 : n2 + n4 + 1 + n1 + (n3 + n1 + 1 + n2) < 8000 := by omega
    have h6 : 1 + (n2 + n4 + 1 + n1 + (n3 + n1 + 1 + n2) + 1) < 8000 := by omega
    rw [F_joined]
    simp at key
    simp [b_joined, h1, h2, h3, h4, h5, h6, key]
  · rcases hsg with h | ⟨h1, h | ⟨h2, h3⟩⟩
    · exact .inl h
    · exact .inr ⟨h1, h⟩
    · exfalso
      subst h1
      subst h2
      simp at ea eb
      apply hne
      rcases Rat.mul_eq_zero.mp ea.symm with h | h
      · exact absurd h hk
      · rcases Rat.mul_eq_zero.mp eb.symm with h' | h'
        · exact absurd h' hk
        · exact ⟨by grind, by grind⟩
theorem x_met0 {a b c d e f : Int} {n n' : Nat} [SzI a n] [SzI b n] [SzI c n] [SzI d n'] [SzI e n'] [SzI f n'] (h : n + n' < 1990) (h0 : a * e - d * b = 0) : F "met" [.tup [.int a, .int b, .int c], .tup [.int d, .int e, .int f]] s = some (.non, s) := by
  have h1 : n + n' < 1000000 := by omega
  have h1' : n' + n < 1000000 := by omega
  rw [F_met]
  simp [b_met, h1, h1', h0]
theorem x_met1 {a b c d e f : Int} {n n' : Nat} [SzI a n] [SzI b n] [SzI c n] [SzI d n'] [SzI e n'] [SzI f n'] (h : n + n' < 1990) (h0 : a * e - d * b ≠ 0) : F "met" [.tup [.int a, .int b, .int c], .tup [.int d, .int e, .int f]] s =
    some (.tup [fr (((b * f - e * c : Int) : Rat) / ((a * e - d * b : Int) : Rat)), fr (((d * c - a * f : Int) : Rat) / ((a * e - d * b : Int) : Rat))], s) := by
  have h1 : n + n' < 1000000 := by omega
  have h1' : n' + n < 1000000 := by omega
  have h2 : n + n' + (n' + n) + 1 + 1 + (n + n' + (n' + n) + 1 + 1) < 8000 := by omega
  have hq : ((a * e - d * b : Int) : Rat) ≠ 0 := by exact_mod_cast h0
  rw [F_met]
  generalize hx : b * f - e * c = X at *
  generalize hy : d * c - a * f = Z at *
  generalize hl : a * e - d * b = L at *
  have iL : SzI L (n + n' + (n' + n) + 1) := by rw [← hl]; exact inferInstance
  have iX : SzI X (n + n' + (n' + n) + 1) := by rw [← hx]; exact inferInstance
  have iZ : SzI Z (n + n' + (n' + n) + 1) := by rw [← hy]; exact SzI.mono (inferInstance : SzI (d * c - a * f) _) (by omega)
  have d1 := x_div (s := s) (a := (X : Rat)) (b := (L : Rat)) hq h2
  have d2 := x_div (s := s) (a := (Z : Rat)) (b := (L : Rat)) hq h2
  simp [b_met, h1, h1', h0, hx, hy, hl, d1, d2]
/-- two lines that a place is on -/
theorem x_metU {a b c d e f : Int} {X Y : Rat} {n n' : Nat} [SzI a n] [SzI b n] [SzI c n] [SzI d n'] [SzI e n'] [SzI f n'] (h : n + n' < 1990) (h0 : (a : Rat) * e - d * b ≠ 0) (h1 : (a : Rat) * X + b * Y + c = 0) (h2 : (d : Rat) * X + e * Y + f = 0) : F "met" [.tup [.int a, .int b, .int c], .tup [.int d, .int e, .int f]] s =
    some (.tup [fr X, fr Y], s) := by
  have h0' : a * e - d * b ≠ 0 := by
    intro z
    apply h0
    have : ((a * e - d * b : Int) : Rat) = 0 := by rw [z]; rfl
    simpa only [Rat.intCast_sub, Rat.intCast_mul] using this
  rw [x_met1 h h0']
  simp only [Rat.intCast_sub, Rat.intCast_mul]
  generalize (a : Rat) = a at *
  generalize (b : Rat) = b at *
  generalize (c : Rat) = c at *
  generalize (d : Rat) = d at *
  generalize (e : Rat) = e at *
  generalize (f : Rat) = f at *
  rw [show (b * f - e * c) / (a * e - d * b) = X from by grind, show (d * c - a * f) / (a * e - d * b) = Y from by grind]
theorem x_line_through {a b : Int} {x y : Rat} {n n' m m' : Nat} [ia : SzI a n] [ib : SzI b n'] [ix : Sz x m] [iy : Sz y m'] (h : n + n' + m + m' < 2000) (h0 : ¬ (a = 0 ∧ b = 0)) : ∃ (u v w : Int) (k : Rat), (∀ s, F "line_through" [.int a, .int b, .tup [fr x, fr y]] s = some (.tup [.int u, .int v, .int w], s)) ∧ k ≠ 0 ∧ (u : Rat) = k * a ∧ (v : Rat) = k * b ∧ (w : Rat) = k * (0 - (a * x + b * y)) ∧
    Nat.gcd (Nat.gcd u.natAbs v.natAbs) w.natAbs = 1 ∧ (0 < u ∨ u = 0 ∧ 0 < v) ∧ SzI u (2 * n + 2 * n' + m + m' + 8) ∧ SzI v (2 * n + 2 * n' + m + m' + 8) ∧ SzI w (2 * n + 2 * n' + m + m' + 8) := by
  have hq : ¬ ((a : Rat) = 0 ∧ (b : Rat) = 0) := fun z => h0 ⟨by exact_mod_cast z.1, by exact_mod_cast z.2⟩
  have s3 : Sz (0 - ((a : Rat) * x + b * y)) (n + n' + m + m' + 6) := Sz.mono (inferInstance : Sz (0 - ((a : Rat) * x + b * y)) _) (by omega)
  have s1 : Sz (a : Rat) (n + 1) := inferInstance
  have s2 : Sz (b : Rat) (n' + 1) := inferInstance
  obtain ⟨u, v, w, k, hw, hk, e1, e2, e3, hg, hs, i1, i2, i3⟩ := whole3S (a := (a : Rat)) (b := (b : Rat)) (c := 0 - ((a : Rat) * x + b * y)) s1 s2 s3 (fun z => hq ⟨z.1, z.2.1⟩)
  refine ⟨u, v, w, k, fun s => ?_, hk, e1, e2, e3, hg, ?_, i1.mono (by omega), i2.mono (by omega), i3.mono (by omega)⟩
  · have key := x_told_integers (s := s) (l := [(a : Rat), (b : Rat), 0 - ((a : Rat) * x + b * y)]) (n := n + n' + m + m' + 6) (by
      intro q hq
      simp only [List.mem_cons, List.not_mem_nil, or_false] at hq
      rcases hq with rfl | rfl | rfl
      · exact s1.mono (by omega)
      · exact s2.mono (by omega)
      · exact s3) (by simp; omega) (by simp) (by
      by_cases z : (a : Rat) = 0
      · exact ⟨(b : Rat), by simp, fun z' => hq ⟨z, z'⟩⟩
      · exact ⟨(a : Rat), by simp, z⟩)
    rw [hw] at key
    clear s1 s2 s3
    have h1 : n + 1 + m < 8000 := by omega
    have h1' : n' + 1 + m' < 8000 := by omega
    have h2 : n + 1 + m + (n' + 1 + m') < 8000 := by omega
    have h3 : 1 + (n + 1 + m + (n' + 1 + m') + 1) < 8000 := by omega
    rw [F_line_through]
    simp at key
    simp [b_line_through, h1, h1', h2, h3, key]
  · rcases hs with z | ⟨z1, z | ⟨z2, z3⟩⟩
    · exact .inl z
    · exact .inr ⟨z1, z⟩
    · exfalso
      subst z1
      subst z2
      simp at e1 e2
      apply hq
      constructor
      · rcases Rat.mul_eq_zero.mp e1.symm with z | z
        · exact absurd z hk
        · exact z
      · rcases Rat.mul_eq_zero.mp e2.symm with z | z
        · exact absurd z hk
        · exact z
theorem x_upright_through {a b c : Int} {x y : Rat} : F "upright_through" [.tup [.int a, .int b, .int c], .tup [fr x, fr y]] s = F "line_through" [.int b, .int (-a), .tup [fr x, fr y]] s := by
  rw [F_upright_through]
  simp [b_upright_through]
  cases F "line_through" [.int b, .int (-a), .tup [fr x, fr y]] s <;> simp
def ftX (a b c : Int) (x y : Rat) : Rat := ((b : Rat) * (b * x - a * y) - a * c) / (a * a + b * b)
def ftY (a b c : Int) (x y : Rat) : Rat := (0 - (a : Rat) * (b * x - a * y) - b * c) / (a * a + b * b)
instance {a b c : Int} {x y : Rat} {n m : Nat} [SzI a n] [SzI b n] [SzI c n] [Sz x m] [Sz y m] : Sz (ftX a b c x y) (9 * n + 2 * m + 25) := by
  unfold ftX
  exact Sz.mono (inferInstance : Sz (((b : Rat) * (b * x - a * y) - a * c) / (a * a + b * b)) _) (by omega)
instance {a b c : Int} {x y : Rat} {n m : Nat} [SzI a n] [SzI b n] [SzI c n] [Sz x m] [Sz y m] : Sz (ftY a b c x y) (9 * n + 2 * m + 25) := by
  unfold ftY
  exact Sz.mono (inferInstance : Sz ((0 - (a : Rat) * (b * x - a * y) - b * c) / (a * a + b * b)) _) (by omega)
theorem sq_pos' {a b : Int} (h : ¬ (a = 0 ∧ b = 0)) : 0 < a * a + b * b := by
  by_cases ha : a = 0
  · by_cases hb : b = 0
    · exact absurd ⟨ha, hb⟩ h
    · subst ha
      have : 0 < b * b := by
        rcases Int.lt_or_gt_of_ne hb with z | z
        · exact Int.mul_pos_of_neg_of_neg z z
        · exact Int.mul_pos z z
      omega
  · have h1 : 0 < a * a := by
      rcases Int.lt_or_gt_of_ne ha with z | z
      · exact Int.mul_pos_of_neg_of_neg z z
      · exact Int.mul_pos z z
    have h2 : 0 ≤ b * b := by
      rcases Int.le_total 0 b with z | z
      · exact Int.mul_nonneg z z
      · exact Int.mul_nonneg_of_nonpos_of_nonpos z z
    omega
theorem sq_ne {a b : Int} (h : ¬ (a = 0 ∧ b = 0)) : (a : Rat) * a + b * b ≠ 0 := by
  have := sq_pos' h
  intro z
  have : (a * a + b * b : Int) = 0 := by
    have z' : ((a * a + b * b : Int) : Rat) = 0 := by simpa only [Rat.intCast_add, Rat.intCast_mul] using z
    exact_mod_cast z'
  omega
theorem x_foot {a b c : Int} {x y : Rat} {n m : Nat} [ia : SzI a n] [ib : SzI b n] [ic : SzI c n] [Sz x m] [Sz y m] (h : 5 * n + 2 * m < 1970) (h0 : ¬ (a = 0 ∧ b = 0)) : F "foot" [.tup [.int a, .int b, .int c], .tup [fr x, fr y]] s = some (.tup [fr (ftX a b c x y), fr (ftY a b c x y)], s) := by
  have h0' : ¬ (b = 0 ∧ -a = 0) := fun z => h0 ⟨by omega, z.1⟩
  obtain ⟨u, v, w, k, hl, hk, e1, e2, e3, _, _, i1, i2, i3⟩ := x_line_through (a := b) (b := -a) (x := x) (y := y) (by omega) h0'
  have hs := sq_ne h0
  rw [Rat.intCast_neg] at e2 e3
  have hd : ((a * v - u * b : Int) : Rat) = -k * ((a : Rat) * a + b * b) := by rw [Rat.intCast_sub, Rat.intCast_mul, Rat.intCast_mul, e1, e2]; grind
  have hdr : -k * ((a : Rat) * a + b * b) ≠ 0 := by
    intro z
    rcases Rat.mul_eq_zero.mp z with z | z
    · exact hk (by grind)
    · exact hs z
  have hdi : a * v - u * b ≠ 0 := by
    intro z
    rw [z] at hd
    exact hdr hd.symm
  have hm := x_met1 (s := s) (a := a) (b := b) (c := c) (d := u) (e := v) (f := w) (by omega) hdi
  have X : ((b * w - v * c : Int) : Rat) / ((a * v - u * b : Int) : Rat) = ftX a b c x y := by
    rw [hd, Rat.intCast_sub, Rat.intCast_mul, Rat.intCast_mul, e2, e3]; unfold ftX; grind
  have Y : ((u * c - a * w : Int) : Rat) / ((a * v - u * b : Int) : Rat) = ftY a b c x y := by
    rw [hd, Rat.intCast_sub, Rat.intCast_mul, Rat.intCast_mul, e1, e3]; unfold ftY; grind
  rw [X, Y] at hm
  rw [F_foot]
  simp [b_foot, x_upright_through, hl, hm]
theorem ft_on {a b c : Int} {x y : Rat} (h0 : ¬ (a = 0 ∧ b = 0)) : (a : Rat) * ftX a b c x y + b * ftY a b c x y + c = 0 ∧ (x - ftX a b c x y) * b = (y - ftY a b c x y) * a := by
  have hs := sq_ne h0
  unfold ftX ftY
  generalize (a : Rat) = a at *
  generalize (b : Rat) = b at *
  generalize (c : Rat) = c at *
  constructor <;> grind
theorem ft_uniq {a b c : Int} {x y P Q : Rat} (h0 : ¬ (a = 0 ∧ b = 0)) (h1 : (a : Rat) * P + b * Q + c = 0) (h2 : (x - P) * b = (y - Q) * a) : ftX a b c x y = P ∧ ftY a b c x y = Q := by
  have hs := sq_ne h0
  unfold ftX ftY
  generalize (a : Rat) = a at *
  generalize (b : Rat) = b at *
  generalize (c : Rat) = c at *
  constructor <;> grind
theorem x_mirrored {a b c : Int} {x y : Rat} {n m : Nat} [SzI a n] [SzI b n] [SzI c n] [Sz x m] [Sz y m] (h : 5 * n + 2 * m < 1970) (h0 : ¬ (a = 0 ∧ b = 0)) : F "mirrored" [.tup [.int a, .int b, .int c], .tup [fr x, fr y]] s = some (.tup [fr (2 * ftX a b c x y - x), fr (2 * ftY a b c x y - y)], s) := by
  have h1 : 2 + (9 * n + 2 * m + 25) < 8000 := by omega
  have h2 : 2 + (9 * n + 2 * m + 25) + m < 8000 := by omega
  rw [F_mirrored]
  simp [b_mirrored, x_foot (n := n) (m := m) h h0, h1, h2]
@[simp] theorem x_middle {a b c d : Rat} {n n' m m' : Nat} [Sz a n] [Sz b n'] [Sz c m] [Sz d m'] (h : n + n' + m + m' < 7000) : F "middle" [.tup [fr a, fr b], .tup [fr c, fr d]] s = some (.tup [fr ((a + c) / 2), fr ((b + d) / 2)], s) := by
  have h1 : n + m < 8000 := by omega
  have h1' : n' + m' < 8000 := by omega
  have h2 : n + m + 1 + 2 < 8000 := by omega
  have h2' : n' + m' + 1 + 2 < 8000 := by omega
  rw [F_middle]
  simp [b_middle, h1, h1', h2, h2']
@[simp] theorem x_square_apart {a b c d : Rat} {n n' m m' : Nat} [Sz a n] [Sz b n'] [Sz c m] [Sz d m'] (h : n + n' + m + m' < 3900) : F "square_apart" [.tup [fr a, fr b], .tup [fr c, fr d]] s = some (fr ((a - c) * (a - c) + (b - d) * (b - d)), s) := by
  have h1 : n + m < 8000 := by omega
  have h1' : n' + m' < 8000 := by omega
  have h2 : n + m + 1 + (n + m + 1) < 8000 := by omega
  have h2' : n' + m' + 1 + (n' + m' + 1) < 8000 := by omega
  have h3 : n + m + 1 + (n + m + 1) + (n' + m' + 1 + (n' + m' + 1)) < 8000 := by omega
  rw [F_square_apart]
  simp [b_square_apart, h1, h1', h2, h2', h3]
theorem x_told {R : List Int} {n : Nat} (hs : ∀ i ∈ R, SzI i n) (hn : n < 8900) (hl : R.length ≤ 1000) (h0 : ∃ i ∈ R, i ≠ 0) : F "told" [.tup (R.map W.int)] s = some (.tup ((toldI R).map W.int), s) := by
  obtain ⟨hg, hgp⟩ := gN_ltI hs h0
  obtain ⟨i0, r0, hf⟩ := row_firstI h0
  have hsg : sgnI R = decide (0 < i0) := by unfold sgnI; rw [hf]
  rw [F_told]
  simp [b_told]
  rw [forGo_fold W.int (fun k : Nat => [Sl.val (W.tup (R.map W.int)), .val (.int (k : Int)), .no, .no]) (fun g i => Nat.gcd g i.natAbs) (fun _ _ => True) R 0 ?h0 ?hi ?hs]
  case h0 => rfl
  case hi => trivial
  case hs =>
    intro k i r _
    exact ⟨by simp [turn], trivial⟩
  have hgN : (R.foldl (fun g i => Nat.gcd g i.natAbs) 0) = gN R := rfl
  rw [hgN]
  simp [hl]
  rw [lcGo_map (enc := W.int) (g := fun i : Int => if i = 0 then none else some (W.int i)) ?hc]
  case hc =>
    intro i hi
    by_cases h : i = 0 <;> simp [lcItem, h]
  rw [filt_int, hf]
  simp [hl]
  rw [lcGo_all (enc' := W.int) (g := fun i : Int => (if sgnI R then i else -i) / (gN R : Int)) ?hc]
  case hc =>
    intro i hi
    have hd : ∀ i, okDiv i (gN R : Int) := fun i => okDiv_lt (n := n) (by omega) (by simpa using hg) (by omega)
    by_cases h : 0 < i0 <;> simp [lcItem, h, hsg, bin_fdiv (hd _), Int.fdiv_eq_ediv_of_nonneg]
  have hw : (R.map fun i : Int => (if sgnI R then i else -i) / (gN R : Int)) = toldI R := rfl
  rw [hw]
  simp
@[simp] theorem x_bracket {a b c d e f g h i : Int} {n : Nat} [SzI a n] [SzI b n] [SzI c n] [SzI d n] [SzI e n] [SzI f n] [SzI g n] [SzI h n] [SzI i n] (hn : n < 100000) : F "bracket" [.tup [.int a, .int b, .int c], .tup [.int d, .int e, .int f], .tup [.int g, .int h, .int i]] s = some (.int (a * (e * i - f * h) + b * (f * g - d * i) + c * (d * h - e * g)), s) := by
  have h1 : n + n < 1000000 := by omega
  have h2 : n + (n + n + (n + n) + 1) < 1000000 := by omega
  rw [F_bracket]
  simp [b_bracket, h1, h2]
theorem x_terms {x y : Rat} {n : Nat} [Sz x n] [Sz y n] (h : n < 3000) : F "terms" [.tup [fr x, fr y]] s = some (.tup [fr (x * x), fr (x * y), fr (y * y), fr x, fr y, fr 1], s) := by
  have h1 : n + n < 8000 := by omega
  rw [F_terms]
  simp [b_terms, h1]
theorem x_worth {a b c d e f : Int} {x y : Rat} {n m : Nat} [SzI a n] [SzI b n] [SzI c n] [SzI d n] [SzI e n] [SzI f n] [ix : Sz x m] [iy : Sz y m] (h : n + 2 * m + 2 < 1000) : F "worth" [.tup [.int a, .int b, .int c, .int d, .int e, .int f], .tup [fr x, fr y]] s = some (fr (a * (x * x) + b * (x * y) + c * (y * y) + d * x + e * y + f), s) := by
  have ht := x_terms (s := s) (x := x) (y := y) (n := m) (by omega)
  have i1 : Sz ((a : Rat) * (x * x)) (n + 1 + (m + m)) := inferInstance
  have i2 : Sz ((b : Rat) * (x * y)) (n + 1 + (m + m)) := inferInstance
  have i3 : Sz ((c : Rat) * (y * y)) (n + 1 + (m + m)) := inferInstance
  have i4 : Sz ((d : Rat) * x) (n + 1 + m) := inferInstance
  have i5 : Sz ((e : Rat) * y) (n + 1 + m) := inferInstance
  have i6 : Sz (f : Rat) (n + 1) := inferInstance
  have h6 := @x_total6 s _ _ _ _ _ _ (n + 1 + (m + m)) i1 i2 i3 (i4.mono (by omega)) (i5.mono (by omega)) (i6.mono (by omega)) (by omega)
  have h1 : n + 1 + (m + m) < 8000 := by omega
  have h2 : n + 1 + m < 8000 := by omega
  have h3 : n + 1 + 1 < 8000 := by omega
  rw [F_worth]
  simp [b_worth, ht, lcItem, h1, h2, h3, h6]
theorem x_is_of {a b c d e f : Int} {x y : Rat} {n m : Nat} [SzI a n] [SzI b n] [SzI c n] [SzI d n] [SzI e n] [SzI f n] [ix : Sz x m] [iy : Sz y m] (h : n + 2 * m + 2 < 1000) : F "is_of" [.tup [.int a, .int b, .int c, .int d, .int e, .int f], .tup [fr x, fr y]] s = some (.bl (decide (a * (x * x) + b * (x * y) + c * (y * y) + d * x + e * y + f = (0 : Rat))), s) := by
  have ht := x_worth (s := s) (a := a) (b := b) (c := c) (d := d) (e := e) (f := f) (x := x) (y := y) h
  rw [F_is_of]
  simp [b_is_of, ht]
@[simp] theorem x_table {a b c d e f : Int} {n : Nat} [SzI a n] [SzI c n] [SzI f n] (hn : n < 100000) : F "table" [.tup [.int a, .int b, .int c, .int d, .int e, .int f]] s = some (.tup [.tup [.int (2 * a), .int b, .int d], .tup [.int b, .int (2 * c), .int e], .tup [.int d, .int e, .int (2 * f)]], s) := by
  have h1 : 2 + n < 1000000 := by omega
  rw [F_table]
  simp [b_table, h1]
theorem x_great_number {a b c d e f : Int} {n : Nat} [ia : SzI a n] [ib : SzI b n] [ic : SzI c n] [id : SzI d n] [ie : SzI e n] [jf : SzI f n] (hn : n < 90000) : F "great_number" [.tup [.int a, .int b, .int c, .int d, .int e, .int f]] s = some (.int (2 * a * (2 * c * (2 * f) - e * e) + b * (e * d - b * (2 * f)) + d * (b * e - 2 * c * d)), s) := by
  have ht := x_table (s := s) (a := a) (b := b) (c := c) (d := d) (e := e) (f := f) (n := n) (by omega)
  have hb := @x_bracket s (2 * a) b d b (2 * c) e d e (2 * f) (2 + n) inferInstance (ib.mono (by omega)) (id.mono (by omega)) (ib.mono (by omega)) inferInstance (ie.mono (by omega)) (id.mono (by omega)) (ie.mono (by omega)) inferInstance (by omega)
  rw [F_great_number]
  simp [b_great_number, ht, hb]
theorem x_small_number {a b c d e f : Int} {n : Nat} [SzI a n] [SzI b n] [SzI c n] (hn : n < 90000) : F "small_number" [.tup [.int a, .int b, .int c, .int d, .int e, .int f]] s = some (.int (4 * a * c - b * b), s) := by
  have h1 : 3 + n < 1000000 := by omega
  have h2 : 3 + n + n < 1000000 := by omega
  have h3 : n + n < 1000000 := by omega
  rw [F_small_number]
  simp [b_small_number, h1, h2, h3]
theorem x_kind_of {a b c d e f : Int} {n : Nat} [SzI a n] [SzI b n] [SzI c n] [SzI d n] [SzI e n] [SzI f n] (hn : n < 50000) : F "kind_of" [.tup [.int a, .int b, .int c, .int d, .int e, .int f]] s = some (.str (kindI a b c d e f), s) := by
  have hg := x_great_number (s := s) (a := a) (b := b) (c := c) (d := d) (e := e) (f := f) (n := n) (by omega)
  have hs := x_small_number (s := s) (a := a) (b := b) (c := c) (d := d) (e := e) (f := f) (n := n) (by omega)
  have h1 : n + n < 1000000 := by omega
  have h2 : 3 + n < 1000000 := by omega
  have h3 : 3 + n + n < 1000000 := by omega
  have iG : SzI (2 * a * (2 * c * (2 * f) - e * e) + b * (e * d - b * (2 * f)) + d * (b * e - 2 * c * d)) (15 * n + 50) := SzI.mono (n := 2 + n + (2 + n + (2 + n) + (n + n) + 1) + (n + (n + n + (n + (2 + n)) + 1)) + 1 + (n + (n + n + (2 + n + n) + 1)) + 1) inferInstance (by omega)
  obtain ⟨G, hG⟩ : ∃ G, 2 * a * (2 * c * (2 * f) - e * e) + b * (e * d - b * (2 * f)) + d * (b * e - 2 * c * d) = G := ⟨_, rfl⟩
  obtain ⟨H, hH⟩ : ∃ H, 4 * a * c - b * b = H := ⟨_, rfl⟩
  obtain ⟨I, hI⟩ : ∃ I, d * d - 4 * a * f = I := ⟨_, rfl⟩
  obtain ⟨J, hJ⟩ : ∃ J, e * e - 4 * c * f = J := ⟨_, rfl⟩
  rw [hG] at hg iG
  rw [hH] at hs
  have h4 : n + n + 1 + (15 * n + 50) < 1000000 := by omega
  rw [F_kind_of]
  simp [b_kind_of, hg, hs, h1, h2, h3]
  unfold kindI
  rw [hG, hH, hI, hJ]
  by_cases c1 : G = 0
  · by_cases c2 : H = 0
    · by_cases c3 : I < J
      · by_cases c4 : 0 < J
        · simp [c1, c2, h1, h2, h3, hI, hJ, c3, c4]
        · have c6 : ¬ 0 < I := by omega
          have c7 : ¬ I = 0 := by omega
          simp [c1, c2, h1, h2, h3, hI, hJ, c3, c4, c6, c7]
      · by_cases c4 : 0 < I
        · simp [c1, c2, h1, h2, h3, hI, hJ, c3, c4]
        · have c6 : ¬ 0 < J := by omega
          by_cases c7 : I = 0 <;> by_cases c8 : J = 0 <;> simp [c1, c2, h1, h2, h3, hI, hJ, c3, c4, c6, c7, c8] <;> omega
    · by_cases c3 : 0 < H <;> simp [c1, c2, c3]
  · by_cases c2 : H = 0
    · simp [c1, c2]
    · by_cases c3 : H < 0
      · simp [c1, c2, c3]
      · by_cases c4 : (a + c) * G < 0 <;> simp [c1, c2, c3, c4, h4]
theorem x_polar {a b c d e f p q r : Int} {n m : Nat} [SzI a n] [SzI b n] [SzI c n] [SzI d n] [SzI e n] [SzI f n] [SzI p m] [SzI q m] [SzI r m] (hn : n + m < 1000) (h0 : ∃ i ∈ [2 * a * p + (b * q + d * r), b * p + (2 * c * q + e * r), d * p + (e * q + 2 * f * r)], i ≠ 0) : F "polar" [.tup [.int a, .int b, .int c, .int d, .int e, .int f], .tup [.int p, .int q, .int r]] s = some (.tup ((toldI [2 * a * p + (b * q + d * r), b * p + (2 * c * q + e * r), d * p + (e * q + 2 * f * r)]).map W.int), s) := by
  have ht := x_table (s := s) (a := a) (b := b) (c := c) (d := d) (e := e) (f := f) (n := n) (by omega)
  have hw := x_told (s := s) (n := 3 * n + 3 * m + 10) (R := [2 * a * p + (b * q + d * r), b * p + (2 * c * q + e * r), d * p + (e * q + 2 * f * r)]) (by
    intro i hi
    simp only [List.mem_cons, List.not_mem_nil, or_false] at hi
    rcases hi with rfl | rfl | rfl
    · exact SzI.mono (n := 2 + n + m + (n + m + (n + m) + 1) + 1) inferInstance (by omega)
    · exact SzI.mono (n := n + m + (2 + n + m + (n + m) + 1) + 1) inferInstance (by omega)
    · exact SzI.mono (n := n + m + (n + m + (2 + n + m) + 1) + 1) inferInstance (by omega)) (by omega) (by simp) h0
  simp only [List.map_cons, List.map_nil] at hw
  have h1 : n + m < 1000000 := by omega
  have h2 : 2 + n + m < 1000000 := by omega
  rw [F_polar]
  simp [b_polar, ht, lcItem, h1, h2, hw]
theorem x_projective {x y : Rat} {n1 n2 : Nat} [hx : Sz x n1] [hy : Sz y n2] (hn : n1 + n2 < 2000) : ∃ (p q r : Int) (k : Rat), (∀ s, F "projective" [.tup [fr x, fr y]] s = some (.tup [.int p, .int q, .int r], s)) ∧ k ≠ 0 ∧ (p : Rat) = k * x ∧ (q : Rat) = k * y ∧ (r : Rat) = k * 1 ∧
    Nat.gcd (Nat.gcd p.natAbs q.natAbs) r.natAbs = 1 ∧ (0 < p ∨ p = 0 ∧ (0 < q ∨ q = 0 ∧ 0 < r)) ∧ SzI p (n1 + n2 + 1) ∧ SzI q (n1 + n2 + 1) ∧ SzI r (n1 + n2 + 1) := by
  obtain ⟨p, q, r, k, hw, hk⟩ := x_told_integers3 hx hy (inferInstance : Sz (1 : Rat) 1) (.inl (by omega)) (fun z => absurd z.2.2 (by decide))
  refine ⟨p, q, r, k, fun s => ?_, hk⟩
  rw [F_projective]
  simp [b_projective, hw]
theorem x_tangent {a b c d e f p q r : Int} {n m : Nat} {x y : Rat} [SzI a n] [SzI b n] [SzI c n] [SzI d n] [SzI e n] [SzI f n] [SzI p m] [SzI q m] [SzI r m] (hn : n + m < 1000) (h0 : ∃ i ∈ [2 * a * p + (b * q + d * r), b * p + (2 * c * q + e * r), d * p + (e * q + 2 * f * r)], i ≠ 0) (hp : ∀ s, F "projective" [.tup [fr x, fr y]] s = some (.tup [.int p, .int q, .int r], s)) : F "tangent" [.tup [.int a, .int b, .int c, .int d, .int e, .int f], .tup [fr x, fr y]] s = some (.tup ((toldI [2 * a * p + (b * q + d * r), b * p + (2 * c * q + e * r), d * p + (e * q + 2 * f * r)]).map W.int), s) := by
  have hw := x_polar (s := s) (n := n) hn h0
  rw [F_tangent]
  simp (disch := first | assumption | omega | simp) [b_tangent, hw, hp]
theorem x_small_table {a b c d e f : Int} {n : Nat} [SzI a n] [SzI b n] [SzI c n] [SzI d n] [SzI e n] [SzI f n] (hn : n < 90000) : F "small_table" [.tup [.int a, .int b, .int c, .int d, .int e, .int f]] s = some (.tup [.tup [.int (2 * c * (2 * f) - e * e), .int (d * e - b * (2 * f)), .int (b * e - 2 * c * d)], .tup [.int (d * e - b * (2 * f)), .int (2 * a * (2 * f) - d * d), .int (b * d - 2 * a * e)], .tup [.int (b * e - 2 * c * d), .int (b * d - 2 * a * e), .int (2 * a * (2 * c) - b * b)]], s) := by
  have ht := x_table (s := s) (a := a) (b := b) (c := c) (d := d) (e := e) (f := f) (n := n) (by omega)
  have h1 : n + n < 1000000 := by omega
  have h2 : n + (2 + n) < 1000000 := by omega
  have h3 : 2 + n + n < 1000000 := by omega
  have h4 : 2 + n + (2 + n) < 1000000 := by omega
  rw [F_small_table]
  simp [b_small_table, ht, h1, h2, h3, h4]
theorem x_dual {a b c d e f : Int} {n : Nat} [SzI a n] [SzI b n] [SzI c n] [SzI d n] [SzI e n] [SzI f n] (hn : n < 2000) (h0 : ∃ i ∈ [2 * c * (2 * f) - e * e, 2 * (d * e - b * (2 * f)), 2 * a * (2 * f) - d * d, 2 * (b * e - 2 * c * d), 2 * (b * d - 2 * a * e), 2 * a * (2 * c) - b * b], i ≠ 0) : F "dual" [.tup [.int a, .int b, .int c, .int d, .int e, .int f]] s = some (.tup ((toldI [2 * c * (2 * f) - e * e, 2 * (d * e - b * (2 * f)), 2 * a * (2 * f) - d * d, 2 * (b * e - 2 * c * d), 2 * (b * d - 2 * a * e), 2 * a * (2 * c) - b * b]).map W.int), s) := by
  have ht := x_small_table (s := s) (a := a) (b := b) (c := c) (d := d) (e := e) (f := f) (n := n) (by omega)
  have hw := x_told (s := s) (n := 4 * n + 10) (R := [2 * c * (2 * f) - e * e, 2 * (d * e - b * (2 * f)), 2 * a * (2 * f) - d * d, 2 * (b * e - 2 * c * d), 2 * (b * d - 2 * a * e), 2 * a * (2 * c) - b * b]) (by
    intro i hi
    simp only [List.mem_cons, List.not_mem_nil, or_false] at hi
    rcases hi with rfl | rfl | rfl | rfl | rfl | rfl
    · exact SzI.mono (n := 2 + n + (2 + n) + (n + n) + 1) inferInstance (by omega)
    · exact SzI.mono (n := 2 + (n + n + (n + (2 + n)) + 1)) inferInstance (by omega)
    · exact SzI.mono (n := 2 + n + (2 + n) + (n + n) + 1) inferInstance (by omega)
    · exact SzI.mono (n := 2 + (n + n + (2 + n + n) + 1)) inferInstance (by omega)
    · exact SzI.mono (n := 2 + (n + n + (2 + n + n) + 1)) inferInstance (by omega)
    · exact SzI.mono (n := 2 + n + (2 + n) + (n + n) + 1) inferInstance (by omega)) (by omega) (by simp) h0
  simp only [List.map_cons, List.map_nil] at hw
  have h1 : 2 + (n + n + (n + (2 + n)) + 1) < 1000000 := by omega
  have h2 : 2 + (n + n + (2 + n + n) + 1) < 1000000 := by omega
  rw [F_dual]
  simp [b_dual, ht, h1, h2, hw]
theorem x_worth_at_duals {a b c d e f u v w : Int} {n m : Nat} [SzI a n] [SzI b n] [SzI c n] [SzI d n] [SzI e n] [SzI f n] [SzI u m] [SzI v m] [SzI w m] (hn : n + m < 10000) : F "worth_at_duals" [.tup [.int a, .int b, .int c, .int d, .int e, .int f], .tup [.int u, .int v, .int w]] s = some (.int (a * u * u + b * u * v + c * v * v + d * u * w + e * v * w + f * w * w), s) := by
  have h1 : n + m < 1000000 := by omega
  have h2 : n + m + m < 1000000 := by omega
  rw [F_worth_at_duals]
  simp [b_worth_at_duals, h1, h2]
theorem x_is_tangent {a b c d e f x1 x2 x3 x4 x5 x6 u v w : Int} {n m k : Nat} [SzI a n] [SzI b n] [SzI c n] [SzI d n] [SzI e n] [SzI f n] [SzI x1 m] [SzI x2 m] [SzI x3 m] [SzI x4 m] [SzI x5 m] [SzI x6 m] [SzI u k] [SzI v k] [SzI w k] (hn : n < 2000) (hm : m + k < 10000) (h0 : ∃ i ∈ [2 * c * (2 * f) - e * e, 2 * (d * e - b * (2 * f)), 2 * a * (2 * f) - d * d, 2 * (b * e - 2 * c * d), 2 * (b * d - 2 * a * e), 2 * a * (2 * c) - b * b], i ≠ 0) (ht : toldI [2 * c * (2 * f) - e * e, 2 * (d * e - b * (2 * f)), 2 * a * (2 * f) - d * d, 2 * (b * e - 2 * c * d), 2 * (b * d - 2 * a * e), 2 * a * (2 * c) - b * b] = [x1, x2, x3, x4, x5, x6]) : F "is_tangent" [.tup [.int a, .int b, .int c, .int d, .int e, .int f], .tup [.int u, .int v, .int w]] s = some (.bl (decide (x1 * u * u + x2 * u * v + x3 * v * v + x4 * u * w + x5 * v * w + x6 * w * w = 0)), s) := by
  have hw := x_dual (s := s) (n := n) hn h0
  rw [ht] at hw
  simp only [List.map_cons, List.map_nil] at hw
  have hd := x_worth_at_duals (s := s) (a := x1) (b := x2) (c := x3) (d := x4) (e := x5) (f := x6) (u := u) (v := v) (w := w) hm
  rw [F_is_tangent]
  simp [b_is_tangent, hw, hd]
theorem x_conic_of {x y t : Rat} {a b c : Int} {n : Nat} [ix : Sz x n] [iy : Sz y n] [ia : SzI a n] [ib : SzI b n] [ic : SzI c n] [it : Sz t n] (h : n < 50) {N : Int} (hN : a * a + b * b = N) (h0 : N ≠ 0) (W0 : List Rat) (hW : W0 = [1 - t / N * (a * a), -2 * (t / N * (a * b)), 1 - t / N * (b * b), -2 * (x + t / N * (a * c)), -2 * (y + t / N * (b * c)), x * x + y * y - t / N * (c * c)]) (h1 : ∃ i ∈ W0, i ≠ 0) : (∀ i ∈ W0, Sz i (11 * n + 7)) ∧ F "conic_of" [.tup [fr x, fr y], .tup [.int a, .int b, .int c], fr t] s = some (.tup ((whole W0).map W.int), s) := by
  have iN : SzI N (n + n + (n + n) + 1) := by rw [← hN]; exact inferInstance
  have hN' : (N : Rat) ≠ 0 := fun z => h0 (by exact_mod_cast z)
  have i1 : Sz (1 - t / N * (a * a)) (1 + (n + (n + n + (n + n) + 1 + 1) + (n + 1 + (n + 1))) + 1) := inferInstance
  have i2 : Sz (-2 * (t / N * (a * b))) (2 + (n + (n + n + (n + n) + 1 + 1) + (n + 1 + (n + 1)))) := inferInstance
  have i3 : Sz (1 - t / N * (b * b)) (1 + (n + (n + n + (n + n) + 1 + 1) + (n + 1 + (n + 1))) + 1) := inferInstance
  have i4 : Sz (-2 * (x + t / N * (a * c))) (2 + (n + (n + (n + n + (n + n) + 1 + 1) + (n + 1 + (n + 1))) + 1)) := inferInstance
  have i5 : Sz (-2 * (y + t / N * (b * c))) (2 + (n + (n + (n + n + (n + n) + 1 + 1) + (n + 1 + (n + 1))) + 1)) := inferInstance
  have i6 : Sz (x * x + y * y - t / N * (c * c)) ((n + n + (n + n) + 1) + (n + (n + n + (n + n) + 1 + 1) + (n + 1 + (n + 1))) + 1) := inferInstance
  have hs : ∀ i ∈ W0, Sz i (11 * n + 7) := by
    intro i hi
    rw [hW] at hi
    simp only [List.mem_cons, List.not_mem_nil, or_false] at hi
    rcases hi with rfl | rfl | rfl | rfl | rfl | rfl
    · exact i1.mono (by omega)
    · exact i2.mono (by omega)
    · exact i3.mono (by omega)
    · exact i4.mono (by omega)
    · exact i5.mono (by omega)
    · exact i6.mono (by omega)
  have hl : W0.length = 6 := by rw [hW]; rfl
  have hw := x_told_integers (s := s) (l := W0) (n := 11 * n + 7) hs (by rw [hl]; omega) (by omega) h1
  refine ⟨hs, ?_⟩
  have e0 : W0.map fr = [fr (1 - t / N * (a * a)), fr (-2 * (t / N * (a * b))), fr (1 - t / N * (b * b)), fr (-2 * (x + t / N * (a * c))), fr (-2 * (y + t / N * (b * c))), fr (x * x + y * y - t / N * (c * c))] := by rw [hW]; rfl
  rw [e0] at hw
  have hd := fun s => x_div (s := s) (a := t) (b := N) hN' (by omega)
  rw [F_conic_of]
  simp (disch := first | assumption | omega | simp) [b_conic_of, hN, hd, hw]
theorem x_is_focus {a b c d e f : Int} {x1 x2 x3 x4 x5 x6 : Int} {x y : Rat} {n m k : Nat} [SzI a n] [SzI b n] [SzI c n] [SzI d n] [SzI e n] [SzI f n] [SzI x1 m] [SzI x2 m] [SzI x3 m] [SzI x4 m] [SzI x5 m] [SzI x6 m] [Sz x k] [Sz y k] (hn : n < 2000) (hm : m + k < 1950) (h0 : ∃ i ∈ [2 * c * (2 * f) - e * e, 2 * (d * e - b * (2 * f)), 2 * a * (2 * f) - d * d, 2 * (b * e - 2 * c * d), 2 * (b * d - 2 * a * e), 2 * a * (2 * c) - b * b], i ≠ 0) (ht : toldI [2 * c * (2 * f) - e * e, 2 * (d * e - b * (2 * f)), 2 * a * (2 * f) - d * d, 2 * (b * e - 2 * c * d), 2 * (b * d - 2 * a * e), 2 * a * (2 * c) - b * b] = [x1, x2, x3, x4, x5, x6]) : F "is_focus" [.tup [.int a, .int b, .int c, .int d, .int e, .int f], .tup [fr x, fr y]] s = some (.bl (decide (x1 - x4 * x + x6 * (x * x) = x3 - x5 * y + x6 * (y * y) ∧ x2 - x4 * y - x5 * x + 2 * (x6 * (x * y)) = (0 : Rat))), s) := by
  have hw := x_dual (s := s) (n := n) hn h0
  rw [ht] at hw
  simp only [List.map_cons, List.map_nil] at hw
  rw [F_is_focus]
  simp (disch := first | assumption | omega | simp) [b_is_focus, hw, lcItem]
  by_cases hq : (x1 - x4 * x + x6 * (x * x) : Rat) = x3 - x5 * y + x6 * (y * y) <;> simp [hq]
theorem x_parabola_focus {a b c d e f : Int} {x1 x2 x3 x4 x5 x6 : Int} {n m : Nat} [SzI a n] [SzI b n] [SzI c n] [SzI d n] [SzI e n] [SzI f n] [SzI x1 m] [SzI x2 m] [SzI x3 m] [SzI x4 m] [SzI x5 m] [SzI x6 m] (hn : n < 2000) (hm : m < 800) (h0 : ∃ i ∈ [2 * c * (2 * f) - e * e, 2 * (d * e - b * (2 * f)), 2 * a * (2 * f) - d * d, 2 * (b * e - 2 * c * d), 2 * (b * d - 2 * a * e), 2 * a * (2 * c) - b * b], i ≠ 0) (ht : toldI [2 * c * (2 * f) - e * e, 2 * (d * e - b * (2 * f)), 2 * a * (2 * f) - d * d, 2 * (b * e - 2 * c * d), 2 * (b * d - 2 * a * e), 2 * a * (2 * c) - b * b] = [x1, x2, x3, x4, x5, x6]) (hU : x4 * x4 + x5 * x5 ≠ 0) : F "parabola_focus" [.tup [.int a, .int b, .int c, .int d, .int e, .int f]] s = some (.tup [fr ((x4 * (x1 - x3) + x5 * x2) / (x4 * x4 + x5 * x5)), fr ((x4 * x2 - x5 * (x1 - x3)) / (x4 * x4 + x5 * x5))], s) := by
  have hw := x_dual (s := s) (n := n) hn h0
  rw [ht] at hw
  simp only [List.map_cons, List.map_nil] at hw
  have hU' : (x4 : Rat) * x4 + x5 * x5 ≠ 0 := fun z => hU (by exact_mod_cast z)
  rw [F_parabola_focus]
  simp (disch := first | assumption | omega | simp) [b_parabola_focus, hw, hU']
theorem x_rim_of {a b c d e f p q r : Int} {n m : Nat} {x y : Rat} [SzI a n] [SzI b n] [SzI c n] [SzI d n] [SzI e n] [SzI f n] [SzI p m] [SzI q m] [SzI r m] (hn : n + m < 1000) (h0 : ∃ i ∈ [2 * a * p + (b * q + d * r), b * p + (2 * c * q + e * r), d * p + (e * q + 2 * f * r)], i ≠ 0) (hp : ∀ s, F "projective" [.tup [fr x, fr y]] s = some (.tup [.int p, .int q, .int r], s)) : F "rim_of" [.tup [.int a, .int b, .int c, .int d, .int e, .int f], .tup [fr x, fr y]] s = some (.tup ((toldI [2 * a * p + (b * q + d * r), b * p + (2 * c * q + e * r), d * p + (e * q + 2 * f * r)]).map W.int), s) := by
  have hw := x_polar (s := s) (n := n) hn h0
  rw [F_rim_of]
  simp (disch := first | assumption | omega | simp) [b_rim_of, hw, hp]
theorem x_is_triangle {a b c d e f : Rat} {n : Nat} [Sz a n] [Sz b n] [Sz c n] [Sz d n] [Sz e n] [Sz f n] (h : n < 900) : F "is_triangle" [.tup [.tup [fr a, fr b], .tup [fr c, fr d], .tup [fr e, fr f]]] s = some (.bl (decide ((c - a) * (f - b) - (e - a) * (d - b) ≠ 0)), s) := by
  have h1 : 2 * n + 2 * n + n + n + n + n < 7900 := by omega
  rw [F_is_triangle]
  simp [b_is_triangle, h1]
@[simp] theorem x_across0 {A B C : W} : F "across" [.tup [A, B, C], .int 0] s = some (.tup [B, C], s) := by
  rw [F_across]
  simp [b_across, bin_mod, show Int.fmod 1 3 = 1 from rfl, show Int.fmod 2 3 = 2 from rfl]
@[simp] theorem x_across1 {A B C : W} : F "across" [.tup [A, B, C], .int 1] s = some (.tup [C, A], s) := by
  rw [F_across]
  simp [b_across, bin_mod, show Int.fmod 3 3 = 0 from rfl, show Int.fmod 2 3 = 2 from rfl]
@[simp] theorem x_across2 {A B C : W} : F "across" [.tup [A, B, C], .int 2] s = some (.tup [A, B], s) := by
  rw [F_across]
  simp [b_across, bin_mod, show Int.fmod 3 3 = 0 from rfl, show Int.fmod 4 3 = 1 from rfl]
/-- the line upright to two places' line -/
theorem x_perp {a b c d x y : Rat} {n m : Nat} [Sz a n] [Sz b n] [Sz c n] [Sz d n] [Sz x m] [Sz y m] (h : n < 50) (hm : m < 300) (hne : ¬ (a = c ∧ b = d)) : ∃ (p q r u v w : Int) (k : Rat), (∀ s, F "joined" [.tup [fr a, fr b], .tup [fr c, fr d]] s = some (.tup [.int p, .int q, .int r], s)) ∧ (∀ s, F "upright_through" [.tup [.int p, .int q, .int r], .tup [fr x, fr y]] s = some (.tup [.int u, .int v, .int w], s)) ∧ k ≠ 0 ∧
    (u : Rat) = k * (c - a) ∧ (v : Rat) = k * (d - b) ∧ (w : Rat) = k * (0 - ((c - a) * x + (d - b) * y)) ∧ SzI u (40 * n + 2 * m + 50) ∧ SzI v (40 * n + 2 * m + 50) ∧ SzI w (40 * n + 2 * m + 50) := by
  obtain ⟨p, q, r, k, hj, hk, e1, e2, e3, _, _, i1, i2, i3⟩ := x_joined3 (a := a) (b := b) (c := c) (d := d) (n1 := n) (n2 := n) (n3 := n) (n4 := n) (by omega) hne
  have h0 : ¬ (q = 0 ∧ -p = 0) := by
    rintro ⟨z1, z2⟩
    have z3 : p = 0 := by omega
    subst z1 z3
    apply hne
    constructor
    · rcases Rat.mul_eq_zero.mp (show k * (c - a) = 0 from by rw [← e2]; rfl) with z | z
      · exact absurd z hk
      · grind
    · rcases Rat.mul_eq_zero.mp (show k * (b - d) = 0 from by rw [← e1]; rfl) with z | z
      · exact absurd z hk
      · grind
  obtain ⟨u, v, w, k', hl, hk', f1, f2, f3, _, _, j1, j2, j3⟩ := x_line_through (a := q) (b := -p) (x := x) (y := y) (by omega) h0
  rw [Rat.intCast_neg] at f2 f3
  refine ⟨p, q, r, u, v, w, k' * k, hj, fun s => ?_, rmul_ne hk' hk, by rw [f1, e2]; grind, by rw [f2, e1]; grind, by rw [f3, e1, e2]; grind, j1.mono (by omega), j2.mono (by omega), j3.mono (by omega)⟩
  rw [x_upright_through]
  exact hl s
theorem x_round_centre {a b c d e g X Y : Rat} {n : Nat} [Sz a n] [Sz b n] [Sz c n] [Sz d n] [Sz e n] [Sz g n] (h : n < 22) (hD : (c - a) * (g - b) - (e - a) * (d - b) ≠ 0) (h1 : (X - c) * (X - c) + (Y - d) * (Y - d) = (X - a) * (X - a) + (Y - b) * (Y - b)) (h2 : (X - e) * (X - e) + (Y - g) * (Y - g) = (X - a) * (X - a) + (Y - b) * (Y - b)) :
    F "round_centre" [.tup [.tup [fr a, fr b], .tup [fr c, fr d], .tup [fr e, fr g]]] s = some (.tup [fr X, fr Y], s) := by
  have m1 : Sz ((c + e) / 2) (2 * n + 3) := Sz.mono (inferInstance : Sz ((c + e) / 2) _) (by omega)
  have m2 : Sz ((d + g) / 2) (2 * n + 3) := Sz.mono (inferInstance : Sz ((d + g) / 2) _) (by omega)
  have m3 : Sz ((e + a) / 2) (2 * n + 3) := Sz.mono (inferInstance : Sz ((e + a) / 2) _) (by omega)
  have m4 : Sz ((g + b) / 2) (2 * n + 3) := Sz.mono (inferInstance : Sz ((g + b) / 2) _) (by omega)
  obtain ⟨p, q, r, u, v, w, k, hj, hu, hk, e1, e2, e3, i1, i2, i3⟩ := x_perp (a := c) (b := d) (c := e) (d := g) (x := (c + e) / 2) (y := (d + g) / 2) (n := n) (m := 2 * n + 3) (by omega) (by omega) (fun z => hD (by rw [z.1, z.2]; grind))
  obtain ⟨p', q', r', u', v', w', k', hj', hu', hk', e1', e2', e3', i1', i2', i3'⟩ := x_perp (a := e) (b := g) (c := a) (d := b) (x := (e + a) / 2) (y := (g + b) / 2) (n := n) (m := 2 * n + 3) (by omega) (by omega) (fun z => hD (by rw [z.1, z.2]; grind))
  have hdet : (u : Rat) * v' - u' * v ≠ 0 := by
    rw [e1, e2, e1', e2', show k * (e - c) * (k' * (b - g)) - k' * (a - e) * (k * (g - d)) = k * k' * ((c - a) * (g - b) - (e - a) * (d - b)) from by grind]
    exact rmul_ne (rmul_ne hk hk') hD
  have o1 : (u : Rat) * X + v * Y + w = 0 := by
    rw [e1, e2, e3, show k * (e - c) * X + k * (g - d) * Y + k * (0 - ((e - c) * ((c + e) / 2) + (g - d) * ((d + g) / 2))) = k * (((X - c) * (X - c) + (Y - d) * (Y - d) - ((X - e) * (X - e) + (Y - g) * (Y - g))) / 2) from by grind, h1, h2, Rat.sub_self]
    grind
  have o2 : (u' : Rat) * X + v' * Y + w' = 0 := by
    rw [e1', e2', e3', show k' * (a - e) * X + k' * (b - g) * Y + k' * (0 - ((a - e) * ((e + a) / 2) + (b - g) * ((g + b) / 2))) = k' * (((X - e) * (X - e) + (Y - g) * (Y - g) - ((X - a) * (X - a) + (Y - b) * (Y - b))) / 2) from by grind, h2, Rat.sub_self]
    grind
  have hm := x_metU (s := s) (a := u) (b := v) (c := w) (d := u') (e := v') (f := w') (X := X) (Y := Y) (by omega) hdet o1 o2
  rw [F_round_centre]
  simp (disch := first | assumption | omega | simp) [b_round_centre, turn, hj, hj', hu, hu', hm]
theorem x_round_of {a b c d e g X Y : Rat} {n l : Nat} [Sz a n] [Sz b n] [Sz c n] [Sz d n] [Sz e n] [Sz g n] [Sz X l] [Sz Y l] (h : n < 22) (hl : l < 1900) (hD : (c - a) * (g - b) - (e - a) * (d - b) ≠ 0) (h1 : (X - c) * (X - c) + (Y - d) * (Y - d) = (X - a) * (X - a) + (Y - b) * (Y - b)) (h2 : (X - e) * (X - e) + (Y - g) * (Y - g) = (X - a) * (X - a) + (Y - b) * (Y - b)) :
    F "round_of" [.tup [.tup [fr a, fr b], .tup [fr c, fr d], .tup [fr e, fr g]]] s = some (.tup [.tup [fr X, fr Y], fr ((X - a) * (X - a) + (Y - b) * (Y - b))], s) := by
  have hr := x_round_centre (s := s) (n := n) h hD h1 h2
  rw [F_round_of]
  simp (disch := first | assumption | omega | simp) [b_round_of, hr]
@[simp] theorem x__law_gcd {p q : Int} : F "_law_gcd" [.int p, .int q] s = some (.int (Nat.gcd p.natAbs q.natAbs : Nat), s) := by
  obtain ⟨a, ha, ea⟩ : ∃ a : Nat, (if p < 0 then -p else p) = (a : Int) ∧ a = p.natAbs := ⟨p.natAbs, abs_nat p, rfl⟩
  obtain ⟨b, hb, eb⟩ : ∃ b : Nat, (if q < 0 then -q else q) = (b : Int) ∧ b = q.natAbs := ⟨q.natAbs, abs_nat q, rfl⟩
  rw [F__law_gcd, ← ea, ← eb]
  simp [b__law_gcd, ha, hb]
  rw [gcd_loop2 _ a b (Nat.le_refl _)]
  simp
@[simp] theorem x__law_frac {p q : Int} {n : Nat} [SzI q n] (hq : q ≠ 0) (hn : n < 9000) : F "_law_frac" [.int p, .int q] s = some (fr ((p : Rat) / (q : Rat)), s) := by
  have o1 := fun i => (okDiv_gcd (p := p) hq hn i).1
  obtain ⟨a, ha, ea⟩ : ∃ a : Nat, (if p < 0 then -p else p) = (a : Int) ∧ a = p.natAbs := ⟨p.natAbs, abs_nat p, rfl⟩
  obtain ⟨b, hb, eb⟩ : ∃ b : Nat, (if q < 0 then -q else q) = (b : Int) ∧ b = q.natAbs := ⟨q.natAbs, abs_nat q, rfl⟩
  rw [F__law_frac]
  simp [b__law_frac, ha, hb]
  rw [gcd_loop4 _ a b (Nat.le_refl _), ea, eb]
  by_cases h : 0 < q
  · simp [h, bin_fdiv (o1 _), low_pos (p := p) h]
  · simp [h, bin_fdiv (o1 _), low_neg' (p := p) (q := q) (by omega)]
@[simp] theorem x__law_add {a b : Rat} {n m : Nat} [Sz a n] [Sz b m] (h : n + m < 8000) : F "_law_add" [fr a, fr b] s = some (fr (a + b), s) := by
  have h1 : n + m < 1000000 := by omega
  have h2 : m + n < 1000000 := by omega
  have h3 : n + m < 9000 := by omega
  rw [F__law_add]
  simp [b__law_add, h1, h2, h3, den2, q_add']
@[simp] theorem x__law_sub {a b : Rat} {n m : Nat} [Sz a n] [Sz b m] (h : n + m < 8000) : F "_law_sub" [fr a, fr b] s = some (fr (a - b), s) := by
  have h1 : n + m < 1000000 := by omega
  have h2 : m + n < 1000000 := by omega
  have h3 : n + m < 9000 := by omega
  rw [F__law_sub]
  simp [b__law_sub, h1, h2, h3, den2, q_sub']
@[simp] theorem x__law_mul {a b : Rat} {n m : Nat} [Sz a n] [Sz b m] (h : n + m < 8000) : F "_law_mul" [fr a, fr b] s = some (fr (a * b), s) := by
  have h1 : n + m < 1000000 := by omega
  have h3 : n + m < 9000 := by omega
  rw [F__law_mul]
  simp [b__law_mul, h1, h3, den2, q_mul']
@[simp] theorem x__law_div {a b : Rat} {n m : Nat} [Sz a n] [Sz b m] (hb : b ≠ 0) (h : n + m < 8000) : F "_law_div" [fr a, fr b] s = some (fr (a / b), s) := by
  have h1 : n + m < 1000000 := by omega
  have h3 : n + m < 9000 := by omega
  rw [F__law_div]
  simp [b__law_div, h1, x__law_frac (p := a.num * b.den) (Int.mul_ne_zero (den_ne a) (num_ne hb)) h3, q_div']
theorem x__law_told {R : List Int} {n : Nat} (hs : ∀ i ∈ R, SzI i n) (hn : n < 8900) (hl : R.length ≤ 1000) (h0 : ∃ i ∈ R, i ≠ 0) : F "_law_told" [.tup (R.map W.int)] s = some (.tup ((toldI R).map W.int), s) := by
  obtain ⟨hg, hgp⟩ := gN_ltI hs h0
  obtain ⟨i0, r0, hf⟩ := row_firstI h0
  have hsg : sgnI R = decide (0 < i0) := by unfold sgnI; rw [hf]
  rw [F__law_told]
  simp [b__law_told]
  rw [forGo_fold W.int (fun k : Nat => [Sl.val (W.tup (R.map W.int)), .val (.int (k : Int)), .no, .no]) (fun g i => Nat.gcd g i.natAbs) (fun _ _ => True) R 0 ?h0 ?hi ?hs]
  case h0 => rfl
  case hi => trivial
  case hs =>
    intro k i r _
    exact ⟨by simp [turn], trivial⟩
  have hgN : (R.foldl (fun g i => Nat.gcd g i.natAbs) 0) = gN R := rfl
  rw [hgN]
  simp [hl]
  rw [lcGo_map (enc := W.int) (g := fun i : Int => if i = 0 then none else some (W.int i)) ?hc]
  case hc =>
    intro i hi
    by_cases h : i = 0 <;> simp [lcItem, h]
  rw [filt_int, hf]
  simp [hl]
  rw [lcGo_all (enc' := W.int) (g := fun i : Int => (if sgnI R then i else -i) / (gN R : Int)) ?hc]
  case hc =>
    intro i hi
    have hd : ∀ i, okDiv i (gN R : Int) := fun i => okDiv_lt (n := n) (by omega) (by simpa using hg) (by omega)
    have hv : (-i) / (gN R : Int) = -(i / (gN R : Int)) := Int.neg_ediv_of_dvd (gN_dvd hi)
    by_cases h : 0 < i0 <;> simp [lcItem, h, hsg, bin_fdiv (hd _), Int.fdiv_eq_ediv_of_nonneg, hv]
  have hw : (R.map fun i : Int => (if sgnI R then i else -i) / (gN R : Int)) = toldI R := rfl
  rw [hw]
  simp
theorem x__law_toldl {R : List Int} {n : Nat} (hs : ∀ i ∈ R, SzI i n) (hn : n < 8900) (hl : R.length ≤ 1000) (h0 : ∃ i ∈ R, i ≠ 0) : F "_law_told" [.lst (R.map W.int)] s = some (.tup ((toldI R).map W.int), s) := by
  obtain ⟨hg, hgp⟩ := gN_ltI hs h0
  obtain ⟨i0, r0, hf⟩ := row_firstI h0
  have hsg : sgnI R = decide (0 < i0) := by unfold sgnI; rw [hf]
  rw [F__law_told]
  simp [b__law_told]
  rw [forGo_fold W.int (fun k : Nat => [Sl.val (W.lst (R.map W.int)), .val (.int (k : Int)), .no, .no]) (fun g i => Nat.gcd g i.natAbs) (fun _ _ => True) R 0 ?h0 ?hi ?hs]
  case h0 => rfl
  case hi => trivial
  case hs =>
    intro k i r _
    exact ⟨by simp [turn], trivial⟩
  have hgN : (R.foldl (fun g i => Nat.gcd g i.natAbs) 0) = gN R := rfl
  rw [hgN]
  simp [hl]
  rw [lcGo_map (enc := W.int) (g := fun i : Int => if i = 0 then none else some (W.int i)) ?hc]
  case hc =>
    intro i hi
    by_cases h : i = 0 <;> simp [lcItem, h]
  rw [filt_int, hf]
  simp [hl]
  rw [lcGo_all (enc' := W.int) (g := fun i : Int => (if sgnI R then i else -i) / (gN R : Int)) ?hc]
  case hc =>
    intro i hi
    have hd : ∀ i, okDiv i (gN R : Int) := fun i => okDiv_lt (n := n) (by omega) (by simpa using hg) (by omega)
    have hv : (-i) / (gN R : Int) = -(i / (gN R : Int)) := Int.neg_ediv_of_dvd (gN_dvd hi)
    by_cases h : 0 < i0 <;> simp [lcItem, h, hsg, bin_fdiv (hd _), Int.fdiv_eq_ediv_of_nonneg, hv]
  have hw : (R.map fun i : Int => (if sgnI R then i else -i) / (gN R : Int)) = toldI R := rfl
  rw [hw]
  simp
theorem x__law_told_fracs {l : List Rat} {n : Nat} (hs : ∀ x ∈ l, Sz x n) (hn : n * (l.length + 1) < 8890) (hl : l.length ≤ 1000) (h0 : ∃ x ∈ l, x ≠ 0) : F "_law_told_fracs" [.lst (l.map fr)] s = some (.tup ((whole l).map W.int), s) := by
  have hll := low_lt hs
  rw [F__law_told_fracs]
  simp [b__law_told_fracs]
  rw [forGo_fold fr (fun k : Nat => [Sl.val (W.lst (l.map fr)), Sl.val (W.int (k : Int)), .no, .no]) (fun k x => Nat.lcm k x.den) (fun k r => (∀ x ∈ r, x ∈ l) ∧ ∃ m, k < 2 ^ m ∧ m + n * r.length = 1 + n * l.length) l 1 ?h0 ?hi ?hs]
  case h0 => rfl
  case hi => exact ⟨fun x h => h, 1, by decide, rfl⟩
  case hs =>
    intro k x r ⟨hx, m, hk, hm⟩
    have hz := hs x (hx x (List.mem_cons_self ..))
    have : SzI (k : Int) m := ⟨by simpa using hk⟩
    have : Sz x n := hz
    rw [List.length_cons, Nat.mul_succ] at hm
    rw [Nat.mul_succ] at hn
    have hp := x.den_pos
    have hgp : 0 < Nat.gcd k x.den := Nat.gcd_pos_of_pos_right _ hp
    have hgle : Nat.gcd k x.den ≤ x.den := Nat.le_of_dvd hp (Nat.gcd_dvd_right _ _)
    have hd : okDiv ((k : Int) * (x.den : Int)) ((Nat.gcd k x.den : Nat) : Int) := okDiv_lt (n := n) (by omega) (by simp only [Int.natAbs_natCast]; exact Nat.lt_of_le_of_lt hgle hz.den) (by omega)
    have hmn : m + n < 1000000 := by omega
    refine ⟨?_, fun y hy => hx y (List.mem_cons_of_mem _ hy), m + n, lcm_lt hk hz.den hp, by omega⟩
    simp [turn, hmn, bin_fdiv hd, lcm_step]
  have hlow : (l.foldl (fun k x => Nat.lcm k x.den) 1) = lowN l := rfl
  rw [hlow]
  simp
  rw [lcGo_all (enc' := W.int) (g := fun x : Rat => x.num * ((lowN l / x.den : Nat) : Int)) ?hc]
  case hc =>
    intro x hx
    have : Sz x n := hs x hx
    have e : (lowN l / x.den) < 2 ^ (1 + n * l.length) := Nat.lt_of_le_of_lt (Nat.div_le_self _ _) hll
    have : SzI ((lowN l : Int) / (x.den : Int)) (1 + n * l.length) := ⟨by rw [← Int.natCast_ediv, Int.natAbs_natCast]; exact e⟩
    have hd : okDiv (lowN l : Int) (x.den : Int) := okDiv_of (n := n) (den_ne x) (by rw [Nat.mul_succ] at hn; omega)
    have hb : n + (1 + n * l.length) < 1000000 := by rw [Nat.mul_succ] at hn; omega
    simp [lcItem, bin_fdiv hd, Int.fdiv_eq_ediv_of_nonneg, hb]
  have hrow : (l.map fun x : Rat => x.num * ((lowN l / x.den : Nat) : Int)) = rowI l := rfl
  rw [hrow]
  have hR : ∀ i ∈ rowI l, SzI i (n + (1 + n * l.length)) := by
    intro i hi
    unfold rowI at hi
    obtain ⟨x, hx, rfl⟩ := List.mem_map.mp hi
    have hz := hs x hx
    refine ⟨?_⟩
    rw [Int.natAbs_mul, Int.natAbs_natCast, Nat.pow_add]
    have e : (lowN l / x.den) < 2 ^ (1 + n * l.length) := Nat.lt_of_le_of_lt (Nat.div_le_self _ _) hll
    exact Nat.mul_lt_mul'' hz.num e
  have hN : ∃ i ∈ rowI l, i ≠ 0 := by
    obtain ⟨i, r, e⟩ := row_first h0
    have : i ∈ (rowI l).filter (· ≠ 0) := by rw [e]; simp
    exact ⟨i, (List.mem_filter.mp this).1, by simpa using (List.mem_filter.mp this).2⟩
  have ht := x__law_toldl (s := s) hR (by rw [Nat.mul_succ] at hn; omega) (by unfold rowI; simpa using hl) hN
  simp [hl, ht]
  rfl
theorem x__law_told_fracs3 {a b c : Rat} {n1 n2 n3 : Nat} (ha : Sz a n1) (hb : Sz b n2) (hc : Sz c n3) (hn : n1 + n2 + n3 < 2200) (h0 : ¬ (a = 0 ∧ b = 0 ∧ c = 0)) : ∃ (x y z : Int) (k : Rat), (∀ s, F "_law_told_fracs" [.lst [fr a, fr b, fr c]] s = some (.tup [.int x, .int y, .int z], s)) ∧ k ≠ 0 ∧ (x : Rat) = k * a ∧ (y : Rat) = k * b ∧ (z : Rat) = k * c ∧
    Nat.gcd (Nat.gcd x.natAbs y.natAbs) z.natAbs = 1 ∧ (0 < x ∨ x = 0 ∧ (0 < y ∨ y = 0 ∧ 0 < z)) ∧ SzI x (n1 + n2 + n3) ∧ SzI y (n1 + n2 + n3) ∧ SzI z (n1 + n2 + n3) := by
  obtain ⟨x, y, z, k, hw, hk, e1, e2, e3, hg, hs, i1, i2, i3⟩ := whole3S ha hb hc h0
  refine ⟨x, y, z, k, fun s => ?_, hk, e1, e2, e3, hg, hs, i1, i2, i3⟩
  have key := x__law_told_fracs (s := s) (l := [a, b, c]) (n := max n1 (max n2 n3)) (by
    intro q hq
    simp only [List.mem_cons, List.not_mem_nil, or_false] at hq
    rcases hq with rfl | rfl | rfl
    · exact ha.mono (by omega)
    · exact hb.mono (by omega)
    · exact hc.mono (by omega)) (by simp only [List.length_cons, List.length_nil]; omega) (by simp) (by
    by_cases z1 : a = 0
    · by_cases z2 : b = 0
      · exact ⟨c, by simp, fun z => h0 ⟨z1, z2, z⟩⟩
      · exact ⟨b, by simp, z2⟩
    · exact ⟨a, by simp, z1⟩)
  rw [hw] at key
  exact key
theorem x__law_fraction (s : DS) {top low : Int} {n : Nat} (h0 : 0 ≤ top) (h1 : 0 < low) (h2 : top < 2 ^ n) (h3 : low < 2 ^ n) (hn : n < 1000) (h4 : top < 100000000) (h5 : low < 100000000) : ∃ x s', F "_law_fraction" [.st, .int top, .int low] s = some (fr x, s') ∧ Sz x n := by
  obtain ⟨v1, s1, e1, l1, u1⟩ := drw_ok s (2 * top + 1) (by omega)
  obtain ⟨v2, s2, e2, l2, u2⟩ := drw_ok s1 low h1
  have it : SzI top n := sz_of (by omega) h2
  have iv : SzI (1 + v2) n := sz_of (by omega) (by omega)
  refine ⟨((v1 - top : Int) : Rat) / ((1 + v2 : Int) : Rat), s2, ?_, sz_frac (by omega) (by omega) (by omega)⟩
  have g4 : 2 + n < 1000000 := by omega
  have g5 : n < 9000 := by omega
  have d1 := x_draw (s := s) (m := 2 * top + 1) (by omega)
  have d2 := x_draw (s := s1) (m := low) (by omega)
  rw [e1] at d1
  rw [e2] at d2
  have hq := fun s => x__law_frac (s := s) (p := v1 - top) (q := 1 + v2) (n := n) (by omega) g5
  rw [F__law_fraction]
  simp [b__law_fraction, d1, d2, g4, hq]
theorem x__law_place (s : DS) {top low : Int} {n : Nat} (h0 : 0 ≤ top) (h1 : 0 < low) (h2 : top < 2 ^ n) (h3 : low < 2 ^ n) (hn : n < 1000) (h4 : top < 100000000) (h5 : low < 100000000) : ∃ x y s', F "_law_place" [.st, .int top, .int low] s = some (.tup [fr x, fr y], s') ∧ Sz x n ∧ Sz y n := by
  obtain ⟨x, s1, e1, i1⟩ := x__law_fraction s h0 h1 h2 h3 hn h4 h5
  obtain ⟨y, s2, e2, i2⟩ := x__law_fraction s1 h0 h1 h2 h3 hn h4 h5
  refine ⟨x, y, s2, ?_, i1, i2⟩
  rw [F__law_place]
  simp [b__law_place, e1, e2]
end
end K62

namespace K62
open PySem PySem.Spec PyProof.Rows L2 MP
theorem fr_lit {x : Rat} {a : Int} {b : Nat} (h1 : x.num = a) (h2 : x.den = b) : fr x = .tup [.int a, .int b] := by
  unfold fr
  rw [h1, h2]
theorem lt_one {x : Rat} : x.num < (x.den : Int) ↔ x < 1 := by
  have dpos : (0 : Rat) < ((x.den : Int) : Rat) := by
    have := x.den_pos
    exact Rat.intCast_pos.mpr (by omega)
  have e : x * ((x.den : Int) : Rat) = (x.num : Rat) := by
    have h := Rat.div_mul_cancel (a := (x.num : Rat)) (den_ne' x)
    rw [← rat_num x] at h
    exact h
  constructor
  · intro h
    have h2 : (x.num : Rat) < ((x.den : Int) : Rat) := by exact_mod_cast h
    rw [← e] at h2
    apply Rat.not_le.mp
    intro z
    have h3 : 0 ≤ (x - 1) * ((x.den : Int) : Rat) := Rat.mul_nonneg (by grind) (Rat.le_of_lt dpos)
    grind
  · intro h
    have h2 : 0 < (1 - x) * ((x.den : Int) : Rat) := Rat.mul_pos (by grind) dpos
    have h3 : (x.num : Rat) < ((x.den : Int) : Rat) := by rw [← e]; grind
    exact_mod_cast h3
theorem eq_one {x : Rat} : x.num = (x.den : Int) ↔ x = 1 := by
  constructor
  · intro h
    have := rat_num x
    rw [h] at this
    rw [this, Rat.div_def, Rat.mul_inv_cancel _ (den_ne' x)]
  · rintro rfl; decide
theorem szquo {p q : Int} {n : Nat} (h : q ≠ 0) (hp : SzI p n) (hq : SzI q n) : Sz ((p : Rat) / (q : Rat)) n := sz_div h hp.lt hq.lt
theorem szsub {i j : Int} {n : Nat} (h : SzI i n) (g : SzI j n) : SzI (i - j) (n + 1) := ⟨by
  have h1 := h.lt
  have h2 := g.lt
  rw [Nat.pow_succ]
  omega⟩
theorem nz3 {u a b : Rat} (h1 : 1 - u * (a * a) = 0) (h2 : -2 * (u * (a * b)) = 0) (h3 : 1 - u * (b * b) = 0) : False := by
  have e1 : u * (a * b) = 0 := by grind
  have e2 : (u * (a * b)) * (u * (a * b)) = (u * (a * a)) * (u * (b * b)) := by grind
  have e3 : u * (a * a) = 1 := by grind
  have e4 : u * (b * b) = 1 := by grind
  rw [e1, e3, e4] at e2
  exact absurd e2 (by decide +kernel)
theorem isq_nn (i : Int) : 0 ≤ i * i := by
  rcases Int.le_total 0 i with h | h
  · exact Int.mul_nonneg h h
  · have := Int.mul_nonneg (show 0 ≤ -i by omega) (show 0 ≤ -i by omega)
    rwa [Int.neg_mul_neg] at this
structure Cn (x y t : Rat) (a b c K1 K2 K3 K4 K5 K6 : Int) : Prop where
  sx : Sz x 4
  sy : Sz y 4
  sr : Sz t 4
  sa : SzI a 4
  sb : SzI b 4
  sc : SzI c 4
  s1 : SzI K1 358
  s2 : SzI K2 358
  s3 : SzI K3 358
  s4 : SzI K4 358
  s5 : SzI K5 358
  s6 : SzI K6 358
  N0 : a * a + b * b ≠ 0
  t0 : 0 < t
  g0 : (a : Rat) * x + b * y + c ≠ 0
  ba : Bare [K1, K2, K3, K4, K5, K6]
  br : Bare [a, b, c]
  ex : ∃ k u : Rat, k ≠ 0 ∧ u * ((a : Rat) * a + b * b) = t ∧ FoR k u x y a b c K1 K2 K3 K4 K5 K6
section
variable {x y t : Rat} {a b c K1 K2 K3 K4 K5 K6 : Int}
theorem Cn.N1 (h : Cn x y t a b c K1 K2 K3 K4 K5 K6) : (a : Rat) * a + b * b ≠ 0 := fun z => h.N0 (by exact_mod_cast z)
theorem Cn.on (h : Cn x y t a b c K1 K2 K3 K4 K5 K6) (X Y : Rat) : ∃ k, k ≠ 0 ∧ K1 * (X * X) + K2 * (X * Y) + K3 * (Y * Y) + K4 * X + K5 * Y + K6 = k * ((X - x) * (X - x) + (Y - y) * (Y - y) - t * ((a * X + b * Y + c) * (a * X + b * Y + c) / ((a : Rat) * a + b * b))) := by
  obtain ⟨k, u, hk, hu, fo⟩ := h.ex
  refine ⟨k, hk, ?_⟩
  rw [fo.worth]
  have hN := h.N1
  have e : t * ((a * X + b * Y + c) * (a * X + b * Y + c) / ((a : Rat) * a + b * b)) = u * ((a * X + b * Y + c) * (a * X + b * Y + c)) := by
    rw [← hu]
    have := Rat.div_mul_cancel (a := (a * X + b * Y + c) * (a * X + b * Y + c)) hN
    generalize (a * X + b * Y + c) * (a * X + b * Y + c) / ((a : Rat) * a + b * b) = q at *
    rw [← this]
    grind
  rw [e]
theorem r4_pos {k : Rat} (h : k ≠ 0) : 0 < k * k := rsq_pos h
theorem Cn.u0 (h : Cn x y t a b c K1 K2 K3 K4 K5 K6) {u : Rat} (hu : u * ((a : Rat) * a + b * b) = t) : u ≠ 0 := by
  intro z
  have := h.t0
  rw [← hu, z, Rat.zero_mul] at this
  exact absurd this (by decide)
theorem Cn.upos (h : Cn x y t a b c K1 K2 K3 K4 K5 K6) {u : Rat} (hu : u * ((a : Rat) * a + b * b) = t) : 0 < u := by
  have h1 := h.t0
  have hN := h.N1
  have hn : 0 < (a : Rat) * a + b * b := by
    by_cases z : (a : Rat) = 0
    · have zb : (b : Rat) ≠ 0 := by intro w; apply hN; rw [z, w]; decide +kernel
      have := rsq_pos zb
      rw [z]; grind
    · have := rsq_pos z
      by_cases w : (b : Rat) = 0
      · rw [w]; grind
      · have := rsq_pos w; grind
  rw [← hu] at h1
  by_cases c : 0 < u
  · exact c
  · exfalso
    have h5 : 0 ≤ -u := by grind
    have h6 := Rat.mul_nonneg h5 (Rat.le_of_lt hn)
    grind
theorem ell_sign {k u g t : Rat} (hk : k ≠ 0) (hu : 0 < u) (hg : g ≠ 0) (ht : t < 1) : k * (2 - t) * (-8 * (k * (k * k)) * (u * (g * g))) < 0 := by
  have e : k * (2 - t) * (-8 * (k * (k * k)) * (u * (g * g))) = -(8 * ((k * k) * (k * k)) * ((2 - t) * (u * (g * g)))) := by grind
  have h1 := Rat.mul_pos (rsq_pos hk) (rsq_pos hk)
  have h2 := Rat.mul_pos (show 0 < 2 - t by grind) (Rat.mul_pos hu (rsq_pos hg))
  have h3 := Rat.mul_pos (Rat.mul_pos (show (0 : Rat) < 8 by decide) h1) h2
  rw [e]
  grind
theorem Cn.kind (h : Cn x y t a b c K1 K2 K3 K4 K5 K6) : kindI K1 K2 K3 K4 K5 K6 = if t.num < (t.den : Int) then "ellipse" else if t.num = (t.den : Int) then "parabola" else "hyperbola" := by
  obtain ⟨k, u, hk, hu, fo⟩ := h.ex
  have hG := fo.great
  have hH := fo.small
  have up := h.upos hu
  have g0 := h.g0
  rw [hu] at hH
  have hG' : ((2 * K1 * (2 * K3 * (2 * K6) - K5 * K5) + K2 * (K5 * K4 - K2 * (2 * K6)) + K4 * (K2 * K5 - 2 * K3 * K4) : Int) : Rat) = -8 * (k * (k * k)) * (u * ((a * x + b * y + c) * (a * x + b * y + c))) := by
    rw [← hG]; simp only [Rat.intCast_mul, Rat.intCast_add, Rat.intCast_sub]; rfl
  have hH' : ((4 * K1 * K3 - K2 * K2 : Int) : Rat) = 4 * (k * k) * (1 - t) := by
    rw [← hH]; simp only [Rat.intCast_mul, Rat.intCast_sub]; rfl
  have hS : ((K1 + K3 : Int) : Rat) = k * (2 - t) := by
    rw [Rat.intCast_add, fo.h1, fo.h3, ← hu]; grind
  unfold kindI
  generalize 2 * K1 * (2 * K3 * (2 * K6) - K5 * K5) + K2 * (K5 * K4 - K2 * (2 * K6)) + K4 * (K2 * K5 - 2 * K3 * K4) = G at *
  generalize 4 * K1 * K3 - K2 * K2 = H at *
  have kk := rsq_pos hk
  have G0 : G ≠ 0 := by
    intro z
    rw [z] at hG'
    have h1 : k * (k * k) ≠ 0 := rmul_ne hk (rmul_ne hk hk)
    have h2 : u * ((a * x + b * y + c) * (a * x + b * y + c)) ≠ 0 := rmul_ne (h.u0 hu) (rmul_ne g0 g0)
    have h3 := rmul_ne (rmul_ne (show (-8 : Rat) ≠ 0 by decide) h1) h2
    exact h3 hG'.symm
  rw [if_pos G0]
  by_cases t1 : t < 1
  · rw [if_pos (lt_one.mpr t1)]
    have hp : 0 < H := by
      have : (0 : Rat) < (H : Rat) := by rw [hH']; exact Rat.mul_pos (Rat.mul_pos (by decide) kk) (by grind)
      exact Rat.intCast_pos.mp this
    rw [if_neg (by omega), if_neg (by omega), if_pos]
    have := ell_sign hk up g0 t1
    rw [← hG', ← hS, ← Rat.intCast_mul] at this
    exact_mod_cast this
  · rw [if_neg (fun z => t1 (lt_one.mp z))]
    by_cases t2 : t = 1
    · rw [if_pos (eq_one.mpr t2)]
      rw [t2, Rat.sub_self, Rat.mul_zero] at hH'
      have : H = 0 := by exact_mod_cast hH'
      rw [if_pos this]
    · rw [if_neg (fun z => t2 (eq_one.mp z))]
      have hp : H < 0 := by
        have : (0 : Rat) < ((-H : Int) : Rat) := by
          rw [Rat.intCast_neg, hH']
          have := Rat.mul_pos (Rat.mul_pos (show (0 : Rat) < 4 by decide) kk) (show 0 < t - 1 by grind)
          grind
        have := Rat.intCast_pos.mp this
        omega
      rw [if_neg (by omega), if_pos hp]
end
theorem shw {l m g a : Rat} : l * (m * (g * a)) = l * (m * g) * a := by grind
section
variable {x y t : Rat} {a b c K1 K2 K3 K4 K5 K6 : Int}
theorem Cn.foc (h : Cn x y t a b c K1 K2 K3 K4 K5 K6) : ∃ A B : Rat, (A ≠ 0 ∨ B ≠ 0) ∧
    (∀ (X Y : Rat) (n : Nat), Sz X n → Sz Y n → n < 1200 → ∀ s, F "is_focus" [.tup [.int K1, .int K2, .int K3, .int K4, .int K5, .int K6], .tup [fr X, fr Y]] s = some (.bl (decide ((X - x = 0 ∧ Y - y = 0) ∨ ((1 - t) * (X - x) = 2 * A ∧ (1 - t) * (Y - y) = 2 * B))), s)) ∧
    (t = 1 → ∀ s, F "parabola_focus" [.tup [.int K1, .int K2, .int K3, .int K4, .int K5, .int K6]] s = some (.tup [fr x, fr y], s)) ∧
    (t ≠ 1 → 4 * K1 * K3 - K2 * K2 ≠ 0 ∧ (1 - t) * (((K2 * K5 - 2 * K3 * K4 : Int) : Rat) / ((4 * K1 * K3 - K2 * K2 : Int) : Rat) - x) = A ∧ (1 - t) * (((K2 * K4 - 2 * K1 * K5 : Int) : Rat) / ((4 * K1 * K3 - K2 * K2 : Int) : Rat) - y) = B) ∧
    (∃ (x1 x2 x3 x4 x5 x6 : Int) (M u g : Rat), u * ((a : Rat) * a + b * b) = t ∧ (a : Rat) * x + b * y + c = g ∧ (∃ i ∈ [2 * K3 * (2 * K6) - K5 * K5, 2 * (K4 * K5 - K2 * (2 * K6)), 2 * K1 * (2 * K6) - K4 * K4, 2 * (K2 * K5 - 2 * K3 * K4), 2 * (K2 * K4 - 2 * K1 * K5), 2 * K1 * (2 * K3) - K2 * K2], i ≠ 0) ∧ toldI [2 * K3 * (2 * K6) - K5 * K5, 2 * (K4 * K5 - K2 * (2 * K6)), 2 * K1 * (2 * K6) - K4 * K4, 2 * (K2 * K5 - 2 * K3 * K4), 2 * (K2 * K4 - 2 * K1 * K5), 2 * K1 * (2 * K3) - K2 * K2] = [x1, x2, x3, x4, x5, x6] ∧
      (x1 : Rat) = M * (-(u * (g * g)) + 2 * (x * (u * a * g)) + x * x * (1 - t)) ∧ (x2 : Rat) = M * (2 * (x * (u * b * g) + y * (u * a * g) + x * y * (1 - t))) ∧ (x3 : Rat) = M * (-(u * (g * g)) + 2 * (y * (u * b * g)) + y * y * (1 - t)) ∧ (x4 : Rat) = M * (2 * (u * a * g + x * (1 - t))) ∧ (x5 : Rat) = M * (2 * (u * b * g + y * (1 - t))) ∧ (x6 : Rat) = M * (1 - t) ∧ SzI x1 721 ∧ SzI x2 721 ∧ SzI x3 721 ∧ SzI x4 721 ∧ SzI x5 721 ∧ SzI x6 721) := by
  obtain ⟨k, u, hk, hu, fo⟩ := h.ex
  have hN := h.N1
  have g0 := h.g0
  have u0 := h.u0 hu
  have e11 := fo.a11
  have e22 := fo.a22
  have e12 := fo.a12
  have e13 := fo.a13
  have e23 := fo.a23
  have e33 := fo.a33
  have hH := fo.small
  rw [hu] at e11 e22 e12 e13 e23 e33 hH
  obtain ⟨g, hg⟩ : ∃ g, (a : Rat) * x + b * y + c = g := ⟨_, rfl⟩
  rw [hg] at g0 e11 e22 e12 e13 e23
  obtain ⟨m, hm⟩ : ∃ m, 4 * (k * k) = m := ⟨_, rfl⟩
  have m0 : m ≠ 0 := by rw [← hm]; exact rmul_ne (by decide) (rmul_ne hk hk)
  rw [hm] at e11 e22 e12 e13 e23 e33 hH
  have i1 := h.s1
  have i2 := h.s2
  have i3 := h.s3
  have i4 := h.s4
  have i5 := h.s5
  have i6 := h.s6
  have AB : u * a * g ≠ 0 ∨ u * b * g ≠ 0 := by
    by_cases z : (a : Rat) = 0
    · right
      refine rmul_ne (rmul_ne u0 fun w => hN ?_) g0
      rw [z, w]; decide +kernel
    · exact .inl (rmul_ne (rmul_ne u0 z) g0)
  have f11 : ((2 * K3 * (2 * K6) - K5 * K5 : Int) : Rat) = m * (-(u * (g * g)) + 2 * (x * (u * a * g)) + x * x * (1 - t)) := by
    have : ((2 * K3 * (2 * K6) - K5 * K5 : Int) : Rat) = 2 * K3 * (2 * K6) - K5 * K5 := by simp only [Rat.intCast_mul, Rat.intCast_sub]; rfl
    rw [this, e11]
  have f22 : ((2 * K1 * (2 * K6) - K4 * K4 : Int) : Rat) = m * (-(u * (g * g)) + 2 * (y * (u * b * g)) + y * y * (1 - t)) := by
    have : ((2 * K1 * (2 * K6) - K4 * K4 : Int) : Rat) = 2 * K1 * (2 * K6) - K4 * K4 := by simp only [Rat.intCast_mul, Rat.intCast_sub]; rfl
    rw [this, e22]
  have f12 : ((2 * (K4 * K5 - K2 * (2 * K6)) : Int) : Rat) = m * (2 * (x * (u * b * g) + y * (u * a * g) + x * y * (1 - t))) := by
    have : ((2 * (K4 * K5 - K2 * (2 * K6)) : Int) : Rat) = 2 * (K4 * K5 - K2 * (2 * K6)) := by simp only [Rat.intCast_mul, Rat.intCast_sub]; rfl
    rw [this, e12, two_m]
  have f13' : ((K2 * K5 - 2 * K3 * K4 : Int) : Rat) = m * (u * a * g + x * (1 - t)) := by
    have : ((K2 * K5 - 2 * K3 * K4 : Int) : Rat) = K2 * K5 - 2 * K3 * K4 := by simp only [Rat.intCast_mul, Rat.intCast_sub]; rfl
    rw [this, e13]
  have f23' : ((K2 * K4 - 2 * K1 * K5 : Int) : Rat) = m * (u * b * g + y * (1 - t)) := by
    have : ((K2 * K4 - 2 * K1 * K5 : Int) : Rat) = K2 * K4 - 2 * K1 * K5 := by simp only [Rat.intCast_mul, Rat.intCast_sub]; rfl
    rw [this, e23]
  have f13 : ((2 * (K2 * K5 - 2 * K3 * K4) : Int) : Rat) = m * (2 * (u * a * g + x * (1 - t))) := by
    rw [Rat.intCast_mul, f13']
    exact two_m _ _
  have f23 : ((2 * (K2 * K4 - 2 * K1 * K5) : Int) : Rat) = m * (2 * (u * b * g + y * (1 - t))) := by
    rw [Rat.intCast_mul, f23']
    exact two_m _ _
  have f33 : ((2 * K1 * (2 * K3) - K2 * K2 : Int) : Rat) = m * (1 - t) := by
    have : ((2 * K1 * (2 * K3) - K2 * K2 : Int) : Rat) = 2 * K1 * (2 * K3) - K2 * K2 := by simp only [Rat.intCast_mul, Rat.intCast_sub]; rfl
    rw [this, e33]
  have fH : ((4 * K1 * K3 - K2 * K2 : Int) : Rat) = m * (1 - t) := by
    have : ((4 * K1 * K3 - K2 * K2 : Int) : Rat) = 4 * K1 * K3 - K2 * K2 := by simp only [Rat.intCast_mul, Rat.intCast_sub]; rfl
    rw [this, hH]
  have D0 : ∃ i ∈ [2 * K3 * (2 * K6) - K5 * K5, 2 * (K4 * K5 - K2 * (2 * K6)), 2 * K1 * (2 * K6) - K4 * K4, 2 * (K2 * K5 - 2 * K3 * K4), 2 * (K2 * K4 - 2 * K1 * K5), 2 * K1 * (2 * K3) - K2 * K2], i ≠ 0 := by
    by_cases z1 : 2 * (K2 * K5 - 2 * K3 * K4) = 0
    · by_cases z2 : 2 * (K2 * K4 - 2 * K1 * K5) = 0
      · by_cases z3 : 2 * K1 * (2 * K3) - K2 * K2 = 0
        · exfalso
          rw [z1] at f13
          rw [z2] at f23
          rw [z3] at f33
          have q3 : 1 - t = 0 := by
            rcases Rat.mul_eq_zero.mp f33.symm with w | w
            · exact absurd w m0
            · exact w
          rcases AB with w | w
          · exact w (z_one (κ := 1) (by rw [Rat.one_mul, ← f13]; rfl) q3 (by decide) m0)
          · exact w (z_one (κ := 1) (by rw [Rat.one_mul, ← f23]; rfl) q3 (by decide) m0)
        · exact ⟨_, by simp, z3⟩
      · exact ⟨_, by simp, z2⟩
    · exact ⟨_, by simp, z1⟩
  have p22 : ∀ {i j : Int}, SzI i 358 → SzI j 358 → SzI (2 * i * (2 * j)) 720 := fun {i j} h g => SzI.mono (n := 2 + 358 + (2 + 358)) (by have := h; have := g; exact inferInstance) (by decide)
  have p11 : ∀ {i j : Int}, SzI i 358 → SzI j 358 → SzI (i * j) 720 := fun {i j} h g => SzI.mono (n := 358 + 358) (by have := h; have := g; exact inferInstance) (by decide)
  have p12 : ∀ {i j : Int}, SzI i 358 → SzI j 358 → SzI (i * (2 * j)) 718 := fun {i j} h g => SzI.mono (n := 358 + (2 + 358)) (by have := h; have := g; exact inferInstance) (by decide)
  have p21 : ∀ {i j : Int}, SzI i 358 → SzI j 358 → SzI (2 * i * j) 718 := fun {i j} h g => SzI.mono (n := 2 + 358 + 358) (by have := h; have := g; exact inferInstance) (by decide)
  have p2 : ∀ {i : Int}, SzI i 719 → SzI (2 * i) 721 := fun {i} h => SzI.mono (n := 2 + 719) (by have := h; exact inferInstance) (by decide)
  have q11 : ∀ {i j : Int}, SzI i 358 → SzI j 358 → SzI (i * j) 718 := fun {i j} h g => SzI.mono (n := 358 + 358) (by have := h; have := g; exact inferInstance) (by decide)
  obtain ⟨x1, x2, x3, x4, x5, x6, κ, hT, hκ, g1, g2, g3, g4, g5, g6, j1, j2, j3, j4, j5, j6⟩ := told6 (n := 721) (szsub (p22 i3 i6) (p11 i5 i5)) (p2 (szsub (q11 i4 i5) (p12 i2 i6))) (szsub (p22 i1 i6) (p11 i4 i4)) (p2 (szsub (q11 i2 i5) (p21 i3 i4))) (p2 (szsub (q11 i2 i4) (p21 i1 i5))) (szsub (p22 i1 i3) (p11 i2 i2)) D0
  rw [f11] at g1
  rw [f12] at g2
  rw [f22] at g3
  rw [f13] at g4
  rw [f23] at g5
  rw [f33] at g6
  refine ⟨u * a * g, u * b * g, AB, ?_, ?_, ?_, x1, x2, x3, x4, x5, x6, κ * m, u, g, hu, hg, D0, hT, g1.trans (Rat.mul_assoc ..).symm, g2.trans (Rat.mul_assoc ..).symm, g3.trans (Rat.mul_assoc ..).symm, g4.trans (Rat.mul_assoc ..).symm, g5.trans (Rat.mul_assoc ..).symm, g6.trans (Rat.mul_assoc ..).symm, j1, j2, j3, j4, j5, j6⟩
  · intro X Y n hX hY hn s
    have := x_is_focus (s := s) (n := 358) (m := 721) (x := X) (y := Y) (k := n) (by decide) (by omega) D0 hT
    have hi := foc_iff (X := X) (Y := Y) (x := x) (y := y) (F := 1 - t) (A := u * a * g) (B := u * b * g) (G := u * (g * g)) (rmul_ne hκ m0) (g1.trans (Rat.mul_assoc ..).symm) (g2.trans (Rat.mul_assoc ..).symm) (g3.trans (Rat.mul_assoc ..).symm) (g4.trans (Rat.mul_assoc ..).symm) (g5.trans (Rat.mul_assoc ..).symm) (g6.trans (Rat.mul_assoc ..).symm)
    rw [this, decide_eq_decide.mpr hi]
  · rintro rfl s
    have hn0 : (x4 : Rat) * x4 + x5 * x5 ≠ 0 := by
      intro z
      have z := rsq2 z
      rw [g4, g5] at z
      rcases AB with w | w
      · exact w (z_one z.1 (Rat.sub_self) hκ m0)
      · exact w (z_one z.2 (Rat.sub_self) hκ m0)
    have := x_parabola_focus (s := s) (n := 358) (m := 721) (by decide) (by decide) D0 hT (fun z => hn0 (by exact_mod_cast z))
    rw [this]
    have pf := pf_eq g1 g2 g3 g4 g5
    have r1 : ((x4 : Rat) * (x1 - x3) + x5 * x2) / (x4 * x4 + x5 * x5) = x := by
      rw [pf.1, Rat.div_def, Rat.mul_assoc, Rat.mul_inv_cancel _ hn0, Rat.mul_one]
    have r2 : ((x4 : Rat) * x2 - x5 * (x1 - x3)) / (x4 * x4 + x5 * x5) = y := by
      rw [pf.2, Rat.div_def, Rat.mul_assoc, Rat.mul_inv_cancel _ hn0, Rat.mul_one]
    rw [r1, r2]
  · intro ht
    have t0 : 1 - t ≠ 0 := by intro z; apply ht; grind
    have H0 : ((4 * K1 * K3 - K2 * K2 : Int) : Rat) ≠ 0 := by rw [fH]; exact rmul_ne m0 t0
    exact ⟨fun z => H0 (by rw [z]; rfl), mid_eq (Rat.div_mul_cancel H0) fH f13' m0, mid_eq (Rat.div_mul_cancel H0) fH f23' m0⟩
theorem Cn.rim (h : Cn x y t a b c K1 K2 K3 K4 K5 K6) (s : DS) : F "rim_of" [.tup [.int K1, .int K2, .int K3, .int K4, .int K5, .int K6], .tup [fr x, fr y]] s = some (.tup [.int a, .int b, .int c], s) := by
  obtain ⟨k, u, hk, hu, fo⟩ := h.ex
  have g0 := h.g0
  have u0 := h.u0 hu
  have hN := h.N1
  have i1 := h.s1
  have i2 := h.s2
  have i3 := h.s3
  have i4 := h.s4
  have i5 := h.s5
  have i6 := h.s6
  have ix := h.sx
  have iy := h.sy
  obtain ⟨p, q, r, l, hp, l0, e1, e2, e3, _, _, jp, jq, jr⟩ := x_projective (x := x) (y := y) (n1 := 4) (n2 := 4) (by decide)
  obtain ⟨o1, o2, o3⟩ := fo.pol
  obtain ⟨g, hg⟩ : ∃ g, (a : Rat) * x + b * y + c = g := ⟨_, rfl⟩
  rw [hg] at g0 o1 o2 o3
  have f1 : ((2 * K1 * p + (K2 * q + K4 * r) : Int) : Rat) = l * (-2 * (k * u) * g) * a := by
    have : ((2 * K1 * p + (K2 * q + K4 * r) : Int) : Rat) = 2 * K1 * p + (K2 * q + K4 * r) := by simp only [Rat.intCast_mul, Rat.intCast_add]; rfl
    rw [this, pull3 e1 e2 e3 o1, shw]
  have f2 : ((K2 * p + (2 * K3 * q + K5 * r) : Int) : Rat) = l * (-2 * (k * u) * g) * b := by
    have : ((K2 * p + (2 * K3 * q + K5 * r) : Int) : Rat) = K2 * p + (2 * K3 * q + K5 * r) := by simp only [Rat.intCast_mul, Rat.intCast_add]; rfl
    rw [this, pull3 e1 e2 e3 o2, shw]
  have f3 : ((K4 * p + (K5 * q + 2 * K6 * r) : Int) : Rat) = l * (-2 * (k * u) * g) * c := by
    have : ((K4 * p + (K5 * q + 2 * K6 * r) : Int) : Rat) = K4 * p + (K5 * q + 2 * K6 * r) := by simp only [Rat.intCast_mul, Rat.intCast_add]; rfl
    rw [this, pull3 e1 e2 e3 o3, shw]
  have κ0 : l * (-2 * (k * u) * g) ≠ 0 := rmul_ne l0 (rmul_ne (rmul_ne (by decide) (rmul_ne hk u0)) g0)
  have D0 : ∃ i ∈ [2 * K1 * p + (K2 * q + K4 * r), K2 * p + (2 * K3 * q + K5 * r), K4 * p + (K5 * q + 2 * K6 * r)], i ≠ 0 := by
    by_cases z : (a : Rat) = 0
    · refine ⟨_, by simp, fun w : K2 * p + (2 * K3 * q + K5 * r) = 0 => ?_⟩
      rw [w] at f2
      have zb : (b : Rat) ≠ 0 := fun w => hN (by rw [z, w]; decide +kernel)
      exact rmul_ne κ0 zb f2.symm
    · refine ⟨_, by simp, fun w : 2 * K1 * p + (K2 * q + K4 * r) = 0 => ?_⟩
      rw [w] at f1
      exact rmul_ne κ0 z f1.symm
  have hR := told_uniq (κ := l * (-2 * (k * u) * g)) D0 h.br κ0 (by
    simp only [List.map_cons, List.map_nil, f1, f2, f3])
  rw [x_rim_of (n := 358) (m := 4 + 4 + 1) (by decide) D0 hp, hR]
  rfl
end
section
abbrev E (tu fo ri co sa sb sc ta k t lo sp u v mi la li up to cs ce sq : Sl) : List Sl := [.no, .val .st, tu, fo, ri, co, sa, sb, sc, ta, k, t, lo, sp, u, v, mi, la, li, up, to, cs, ce, sq]
abbrev wp : List Nat := [2, 3, 4, 5, 6, 7, 8, 9, 10, 11, 12, 13, 14, 15, 16, 17, 18, 19, 20, 21, 22, 23]
abbrev wk : List Nat := [10, 11, 12, 13, 14, 15, 16, 17, 18, 19, 20]
abbrev pl (x y : Rat) : W := .tup [fr x, fr y]
abbrev rv (a b c : Int) : W := .tup [.int a, .int b, .int c]
abbrev cv (a b c d e f : Int) : W := .tup [.int a, .int b, .int c, .int d, .int e, .int f]
variable {x y : Rat} {a b c K1 K2 K3 K4 K5 K6 : Int} {tu : Sl} {s : DS}
theorem bare3 {a b c : Int} (h : Nat.gcd (Nat.gcd a.natAbs b.natAbs) c.natAbs = 1) (s : 0 < a ∨ a = 0 ∧ (0 < b ∨ b = 0 ∧ 0 < c)) : Bare [a, b, c] := by
  refine ⟨by simpa [gN] using h, ?_⟩
  unfold sgnI
  rcases s with s | ⟨rfl, s | ⟨rfl, s⟩⟩
  · have : a ≠ 0 := by omega
    simp [this, s]
  · have : b ≠ 0 := by omega
    simp [this, s]
  · have : c ≠ 0 := by omega
    simp [this, s]
theorem told3B {a b c : Int} {n : Nat} (ha : SzI a n) (hb : SzI b n) (hc : SzI c n) (hn : n < 8000) (h0 : a * a + b * b ≠ 0) : ∃ (p q r : Int) (k : Rat), (∀ s, F "_law_told" [rv a b c] s = some (rv p q r, s)) ∧ k ≠ 0 ∧ (p : Rat) = k * a ∧ (q : Rat) = k * b ∧ (r : Rat) = k * c ∧ Bare [p, q, r] ∧ p * p + q * q ≠ 0 ∧ SzI p n ∧ SzI q n ∧ SzI r n := by
  have h1 : ¬ (a = 0 ∧ b = 0 ∧ c = 0) := by rintro ⟨rfl, rfl, _⟩; exact h0 rfl
  obtain ⟨p, q, r, k, ht, hk, e1, e2, e3, g, sg, i1, i2, i3⟩ := told3 ha hb hc h1
  refine ⟨p, q, r, k, fun s => ?_, hk, e1, e2, e3, bare3 g sg, ?_, i1, i2, i3⟩
  · have nz : ∃ i ∈ [a, b, c], i ≠ 0 := by
      by_cases z1 : a = 0
      · by_cases z2 : b = 0
        · exact ⟨c, by simp, fun z => h1 ⟨z1, z2, z⟩⟩
        · exact ⟨b, by simp, z2⟩
      · exact ⟨a, by simp, z1⟩
    have := x__law_told (s := s) (R := [a, b, c]) (n := n) (by
      intro i hi
      simp only [List.mem_cons, List.not_mem_nil, or_false] at hi
      rcases hi with rfl | rfl | rfl <;> assumption) (by omega) (by simp) nz
    rw [ht] at this
    exact this
  · intro z
    have z' : ((p : Rat) * p + q * q) = 0 := by exact_mod_cast z
    obtain ⟨y1, y2⟩ := rsq2 z'
    rw [e1] at y1
    rw [e2] at y2
    apply h0
    have a0 : a = 0 := by
      rcases Rat.mul_eq_zero.mp y1 with w | w
      · exact absurd w hk
      · exact_mod_cast w
    have b0 : b = 0 := by
      rcases Rat.mul_eq_zero.mp y2 with w | w
      · exact absurd w hk
      · exact_mod_cast w
    rw [a0, b0]; rfl
theorem lin_one {a b c x y p q r k : Rat} (hk : k ≠ 0) (h1 : p = k * a) (h2 : q = k * b) (h3 : r = k * (c + 1)) (h : a * x + b * y + c = 0) : p * x + q * y + r ≠ 0 := by
  subst h1 h2 h3
  intro z
  apply hk
  grind
theorem toldLe {a b c : Int} {n1 n2 n3 : Nat} (ha : Le a n1) (hb : Le b n2) (hc : Le c n3) (h1 : n1 < 16) (h2 : n2 < 16) (h3 : n3 < 16) (h0 : a * a + b * b ≠ 0) : ∃ (p q r : Int) (k : Rat), (∀ s, F "_law_told" [rv a b c] s = some (rv p q r, s)) ∧ k ≠ 0 ∧ (p : Rat) = k * a ∧ (q : Rat) = k * b ∧ (r : Rat) = k * c ∧ Bare [p, q, r] ∧ p * p + q * q ≠ 0 ∧ Le p n1 ∧ Le q n2 ∧ Le r n3 := by
  have ia : SzI a 4 := ha.szi (by omega)
  have ib : SzI b 4 := hb.szi (by omega)
  have ic : SzI c 4 := hc.szi (by omega)
  have h1 : ¬ (a = 0 ∧ b = 0 ∧ c = 0) := by rintro ⟨rfl, rfl, _⟩; exact h0 rfl
  obtain ⟨p, q, r, k, ht, _⟩ := told3 ia ib ic h1
  obtain ⟨p', q', r', k, hw, hk, e1, e2, e3, br, N0, _⟩ := told3B ia ib ic (by decide) h0
  have nz : ∃ i ∈ [a, b, c], i ≠ 0 := by
    by_cases z1 : a = 0
    · by_cases z2 : b = 0
      · exact ⟨c, by simp, fun z => h1 ⟨z1, z2, z⟩⟩
      · exact ⟨b, by simp, z2⟩
    · exact ⟨a, by simp, z1⟩
  have hx := fun s => x__law_told (s := s) (R := [a, b, c]) (n := 4) (by
    intro i hi
    simp only [List.mem_cons, List.not_mem_nil, or_false] at hi
    rcases hi with rfl | rfl | rfl <;> assumption) (by decide) (by simp) nz
  rw [ht] at hx
  have e := (hx (st0 [])).symm.trans (hw (st0 []))
  simp only [List.map_cons, List.map_nil, Option.some.injEq, Prod.mk.injEq, and_true, W.tup.injEq, List.cons.injEq, W.int.injEq] at e
  obtain ⟨rfl, rfl, rfl⟩ := e
  obtain ⟨l1, l2, l3⟩ := toldI_le ht
  exact ⟨p, q, r, k, hw, hk, e1, e2, e3, br, N0, ⟨Nat.le_trans l1 ha.le⟩, ⟨Nat.le_trans l2 hb.le⟩, ⟨Nat.le_trans l3 hc.le⟩⟩
end
section
variable {x y G : Rat} {xi yi a b c g N K1 K2 K3 K4 K5 K6 : Int} {tu : Sl} {s : DS}
structure Ge (x y : Rat) (xi yi a b c g N : Int) (G : Rat) : Prop where
  ex : x = xi
  ey : y = yi
  lx : Le xi 3
  ly : Le yi 3
  la : Le a 2
  lb : Le b 3
  lg : Le g 20
  lN : Le N 13
  eN : N = a * a + b * b
  eg : (a : Rat) * x + b * y + c = g
  N0 : N ≠ 0
  g0 : g ≠ 0
  eG : (N : Rat) * G = g
theorem Ge.rN (h : Ge x y xi yi a b c g N G) : (N : Rat) = (a : Rat) * a + b * b := by rw [h.eN]; simp only [Rat.intCast_mul, Rat.intCast_add]
theorem Ge.N1 (h : Ge x y xi yi a b c g N G) : (N : Rat) ≠ 0 := fun z => h.N0 (by exact_mod_cast z)
theorem Ge.G0 (h : Ge x y xi yi a b c g N G) : G ≠ 0 := by
  intro z
  have := h.eG
  rw [z, Rat.mul_zero] at this
  exact h.g0 (by exact_mod_cast this.symm)
theorem Ge.G1 (h : Ge x y xi yi a b c g N G) : G = (g : Rat) / (N : Rat) := by
  rw [← h.eG]
  have := h.N1
  generalize (N : Rat) = n at *
  grind
theorem Ge.sG (h : Ge x y xi yi a b c g N G) : Sz G 5 := by
  rw [h.G1]
  exact szquo h.N0 (h.lg.szi (by decide)) (h.lN.szi (by decide))
theorem Ge.sx (h : Ge x y xi yi a b c g N G) : Sz x 4 := by
  have : SzI xi 3 := h.lx.szi (by decide)
  rw [h.ex]; exact inferInstance
theorem Ge.sy (h : Ge x y xi yi a b c g N G) : Sz y 4 := by
  have : SzI yi 3 := h.ly.szi (by decide)
  rw [h.ey]; exact inferInstance
structure Ln (x y : Rat) (a b : Int) (G : Rat) (t p q r : Int) (κ u v l : Rat) : Prop where
  eu : u = -(a * G) - b * t
  ev : v = -(b * G) + a * t
  el : l = u * (x + u / 2) + v * (y + v / 2)
  k0 : κ ≠ 0
  ep : (p : Rat) = κ * u
  eq : (q : Rat) = κ * v
  er : (r : Rat) = κ * -l
  ip : SzI p 160
  iq : SzI q 160
  ir : SzI r 160
theorem pb_half {n w m : Rat} (h : n ≠ 0) (hm : w / (2 * n) = m) : 2 * (m * n) = w := by
  have := Rat.div_mul_cancel (a := w) (rmul_ne (show (2 : Rat) ≠ 0 by decide) h)
  rw [hm] at this
  rw [← this]
  grind
theorem pb_div {n m : Rat} (h : n ≠ 0) : m * n * (m * n) / n = m * m * n := by
  rw [show m * n * (m * n) = (m * m * n) * n by grind, Rat.div_def, Rat.mul_assoc, Rat.mul_inv_cancel _ h, Rat.mul_one]
theorem pb_v3 {z w i κ j k : Rat} (k0 : κ ≠ 0) (h1 : i = κ * w) (h2 : z = 2 * k * w) : j * z = j * (2 * k) / κ * i := by
  rw [h1, h2, Rat.div_def, show j * (2 * k) * κ⁻¹ * (κ * w) = j * (2 * k) * w * (κ * κ⁻¹) by grind, Rat.mul_inv_cancel _ k0]
  grind
theorem pb_not {a b : Int} {w : Rat} (a0 : ¬ (a = 0 ∧ b = 0)) : ¬ ((b : Rat) = 0 ∧ -(a : Rat) = 0 ∧ w = 0) := by
  rintro ⟨z1, z2, _⟩
  have : (a : Rat) = 0 := by grind
  exact a0 ⟨by exact_mod_cast this, by exact_mod_cast z1⟩
theorem t222 (C : Cn x y 1 a b c K1 K2 K3 K4 K5 K6) (h : Ge x y xi yi a b c g N G) {k : Int} (hk : 0 ≤ k) (hk2 : k ≤ 2) (L : List W) (hL : L.length ≤ 2) (s : DS) : ∃ (t p q r : Int) (κ u v l : Rat), -7 + 20 * k ≤ t ∧ t ≤ 7 + 20 * k ∧ Ln x y a b G t p q r κ u v l ∧
    DoneI wk (fun ρ => ρ = E tu (.val (pl x y)) (.val (rv a b c)) (.val (cv K1 K2 K3 K4 K5 K6)) (.val (.int a)) (.val (.int b)) (.val (.int c)) (.own (L ++ [rv p q r])) .no .no .no .no .no .no .no .no .no .no .no .no .no .no) (evSs F G0 q222 (E tu (.val (pl x y)) (.val (rv a b c)) (.val (cv K1 K2 K3 K4 K5 K6)) (.val (.int a)) (.val (.int b)) (.val (.int c)) (.own L) (.val (.int k)) .no .no .no .no .no .no .no .no .no .no .no .no .no) s) := by
  obtain ⟨v0, s1, e1, l1, m1⟩ := drw_ok s 15 (by decide)
  obtain ⟨t, ht⟩ : ∃ t, v0 - 7 + 20 * k = t := ⟨_, rfl⟩
  have lt : Le t 47 := le_of (by omega) (by omega)
  have it : SzI t 6 := lt.szi (by decide)
  have ik : SzI k 2 := sz_of (by omega) (by omega)
  obtain ⟨u, hu⟩ : ∃ u, -((a : Rat) * G) - b * t = u := ⟨_, rfl⟩
  obtain ⟨v, hv⟩ : ∃ v, -((b : Rat) * G) + a * t = v := ⟨_, rfl⟩
  obtain ⟨l, hl⟩ : ∃ l, u * (x + u / 2) + v * (y + v / 2) = l := ⟨_, rfl⟩
  have ia : SzI a 2 := h.la.szi (by decide)
  have ib : SzI b 2 := h.lb.szi (by decide)
  have ic := C.sc
  have ix := h.sx
  have iy := h.sy
  have iG := h.sG
  have iu : Sz u 20 := by rw [← hu]; exact Sz.mono (n := 2 + 1 + 5 + (2 + 1 + (6 + 1)) + 1) inferInstance (by decide)
  have iv : Sz v 20 := by rw [← hv]; exact Sz.mono (n := 2 + 1 + 5 + (2 + 1 + (6 + 1)) + 1) inferInstance (by decide)
  have il : Sz l 100 := by rw [← hl]; exact Sz.mono (n := 20 + (4 + (20 + 2) + 1) + (20 + (4 + (20 + 2) + 1)) + 1) inferInstance (by decide)
  have rN := h.rN
  have N1 := h.N1
  have G0' := h.G0
  have uv0 : ¬ (u = 0 ∧ v = 0) := pb_nz hu.symm hv.symm rN N1 G0'
  obtain ⟨p, q, r, κ, hw, k0, ep, eq, er, gd, sg, ip, iq, ir⟩ := x__law_told_fracs3 iu iv (inferInstance : Sz (-l) 100) (by decide) (fun z => uv0 ⟨z.1, z.2.1⟩)
  have hLn : Ln x y a b G t p q r κ u v l := ⟨hu.symm, hv.symm, hl.symm, k0, ep, eq, er, ip.mono (by decide), iq.mono (by decide), ir.mono (by decide)⟩
  refine ⟨t, p, q, r, κ, u, v, l, by omega, by omega, hLn, ?_⟩
  have a0 : ¬ (a = 0 ∧ b = 0) := by
    rintro ⟨z1, z2⟩
    apply h.N0
    rw [h.eN, z1, z2]; rfl
  have hfoot : ∀ s, F "foot" [rv a b c, pl x y] s = some (pl (x - a * G) (y - b * G), s) := by
    intro s
    have hf := x_foot (s := s) (a := a) (b := b) (c := c) (x := x) (y := y) (n := 4) (m := 4) (ia := ia.mono (by decide)) (ib := ib.mono (by decide)) (by decide) a0
    have hq := ft_uniq (a := a) (b := b) (c := c) (x := x) (y := y) (P := x - a * G) (Q := y - b * G) a0 (by
      have := h.eg
      rw [← h.eG, rN] at this
      grind) (by grind)
    rw [hq.1, hq.2] at hf
    exact hf
  have f1 : x - a * G + -(b : Rat) * t = x + u := by rw [← hu]; grind
  have f2 : y - b * G + (a : Rat) * t = y + v := by rw [← hv]; grind
  have f3 : x + u - x = u := by grind
  have f4 : y + v - y = v := by grind
  have f5 : (x + u + x) / 2 = x + u / 2 := by grind
  have f6 : (y + v + y) / 2 = y + v / 2 := by grind
  have iq' : SzI q 160 := iq.mono (by decide)
  have ip' : SzI p 160 := ip.mono (by decide)
  have ir' : SzI r 160 := ir.mono (by decide)
  have gx : (a : Rat) * x + b * y + c = N * G := by rw [h.eg, h.eG]
  have i1 := C.s1
  have i2 := C.s2
  have i3 := C.s3
  have i4 := C.s4
  have i5 := C.s5
  have i6 := C.s6
  have htan : ∀ s, F "is_tangent" [cv K1 K2 K3 K4 K5 K6, rv p q r] s = some (.bl true, s) := by
    intro s
    obtain ⟨_, _, _, _, _, _, x1, x2, x3, x4, x5, x6, M, u0, g', hu0, hg', D0, hT, g1, g2, g3, g4, g5, g6, j1, j2, j3, j4, j5, j6⟩ := C.foc
    have hx := x_is_tangent (s := s) (n := 358) (m := 721) (k := 160) (u := p) (v := q) (w := r) (by decide) (by decide) D0 hT
    rw [gx] at hg'
    rw [← rN] at hu0
    have w1 : u0 * (g' * g') = G * (N * G) := by rw [← hg', show u0 * (N * G * (N * G)) = u0 * N * (G * (N * G)) by grind, hu0, Rat.one_mul]
    have w2 : ∀ z : Rat, u0 * z * g' = z * G := fun z => by rw [← hg', show u0 * z * (N * G) = u0 * N * (z * G) by grind, hu0, Rat.one_mul]
    simp only [w1, w2, Rat.sub_self, Rat.mul_zero, Rat.add_zero] at g1 g2 g3 g4 g5 g6
    have hd := pb_dual (x := x) (y := y) (a := a) (b := b) (N := N) (G := G) (t := t) (u := u) (v := v) (l := l) (M := M) (κ := κ) hu.symm hv.symm rN hl.symm g1 g2 g3 g4 g5 g6 ep eq er
    have hz : x1 * p * p + x2 * p * q + x3 * q * q + x4 * p * r + x5 * q * r + x6 * r * r = 0 := by exact_mod_cast hd
    rw [hx, hz]
    rfl
  have hlx : (p : Rat) * (x + u / 2) + q * (y + v / 2) + r = 0 := by rw [ep, eq, er, ← hl]; grind
  have pq0 : ¬ (p = 0 ∧ q = 0) := by
    rintro ⟨z1, z2⟩
    rw [z1] at ep
    rw [z2] at eq
    apply uv0
    constructor
    · rcases Rat.mul_eq_zero.mp ep.symm with w | w
      · exact absurd w k0
      · exact w
    · rcases Rat.mul_eq_zero.mp eq.symm with w | w
      · exact absurd w k0
      · exact w
  have hmir : ∀ s, F "mirrored" [rv p q r, pl x y] s = some (pl (x + u) (y + v), s) := by
    intro s
    have hm := x_mirrored (s := s) (a := p) (b := q) (c := r) (x := x) (y := y) (n := 160) (m := 4) (by decide) pq0
    have hq := ft_uniq (a := p) (b := q) (c := r) (x := x) (y := y) (P := x + u / 2) (Q := y + v / 2) pq0 hlx (by rw [ep, eq]; grind)
    rw [hq.1, hq.2, show 2 * (x + u / 2) - x = x + u by grind, show 2 * (y + v / 2) - y = y + v by grind] at hm
    exact hm
  obtain ⟨m, hm⟩ : ∃ m, (u * u + v * v) / (2 * (N * G)) = m := ⟨_, rfl⟩
  have hs : 2 * (m * (N * G)) = u * u + v * v := by
    exact pb_half (rmul_ne N1 G0') hm
  obtain ⟨X, hX⟩ : ∃ X, x + u + m * a = X := ⟨_, rfl⟩
  obtain ⟨Y, hY⟩ : ∃ Y, y + v + m * b = Y := ⟨_, rfl⟩
  have iN : SzI N 4 := h.lN.szi (by decide)
  have im : Sz m 100 := by rw [← hm]; exact Sz.mono (n := 20 + 20 + (20 + 20) + 1 + (2 + (4 + 1 + 5))) inferInstance (by decide)
  have iX : Sz X 200 := by rw [← hX]; exact Sz.mono (n := 4 + 20 + 1 + (100 + (2 + 1)) + 1) inferInstance (by decide)
  have iY : Sz Y 200 := by rw [← hY]; exact Sz.mono (n := 4 + 20 + 1 + (100 + (2 + 1)) + 1) inferInstance (by decide)
  obtain ⟨p', q', r', κ', hw', k0', ep', eq', er', gd', sg', ip2, iq2, ir2⟩ := x__law_told_fracs3 (a := (b : Rat)) (b := -(a : Rat)) (c := a * (y + v) - b * (x + u)) (n1 := 3) (n2 := 3) (n3 := 60) inferInstance inferInstance (Sz.mono (n := 2 + 1 + (4 + 20 + 1) + (2 + 1 + (4 + 20 + 1)) + 1) inferInstance (by decide)) (by decide) (pb_not a0)
  have hL1 := pb_line (κ := κ) (X := X) (Y := Y) hu.symm hv.symm rN hl.symm hs hX.symm hY.symm ep eq er
  have hL2 : (p' : Rat) * X + q' * Y + r' = 0 := by rw [ep', eq', er', ← hX, ← hY]; grind
  have hdet : (p : Rat) * q' - p' * q ≠ 0 := by
    have e := pb_u hu.symm hv.symm rN
    rw [ep, eq, ep', eq', show κ * u * (κ' * -(a : Rat)) - κ' * b * (κ * v) = -(κ * κ' * (a * u + b * v)) by grind, e]
    have := rmul_ne (rmul_ne k0 k0') (rmul_ne N1 G0')
    intro z
    apply this
    grind
  have hmet : ∀ s, F "met" [rv p q r, rv p' q' r'] s = some (pl X Y, s) := fun s => x_metU (s := s) (a := p) (b := q) (c := r) (d := p') (e := q') (f := r') (n := 160) (n' := 3 + 3 + 60) (by decide) hdet hL1 hL2
  have hon := pb_on (X := X) (Y := Y) (s := m) hu.symm hv.symm rN gx hX.symm hY.symm
  have hsq := pb_sq (X := X) (Y := Y) (s := m) hu.symm hv.symm rN hs hX.symm hY.symm
  have hK : (K1 : Rat) * (X * X) + K2 * (X * Y) + K3 * (Y * Y) + K4 * X + K5 * Y + K6 = 0 := by
    obtain ⟨k, _, hk⟩ := C.on X Y
    rw [hk, hon, hsq, ← rN]
    rw [pb_div N1]
    grind
  have hof : ∀ s, F "is_of" [cv K1 K2 K3 K4 K5 K6, pl X Y] s = some (.bl true, s) := by
    intro s
    have hx := x_is_of (s := s) (a := K1) (b := K2) (c := K3) (d := K4) (e := K5) (f := K6) (x := X) (y := Y) (n := 358) (m := 200) (by decide)
    rw [decide_eq_true hK] at hx
    exact hx
  have htg : ∀ s, F "tangent" [cv K1 K2 K3 K4 K5 K6, pl X Y] s = some (rv p q r, s) := by
    intro s
    obtain ⟨k, u0, hk0, hu0, fo⟩ := C.ex
    rw [← rN] at hu0
    obtain ⟨o1, o2, o3⟩ := pb_grad (X := X) (Y := Y) fo
    obtain ⟨P, Q, R, j, hp, j0, c1, c2, c3, _, _, jP, jQ, jR⟩ := x_projective (x := X) (y := Y) (n1 := 200) (n2 := 200) (by decide)
    rw [hon] at o1 o2
    have w1 : X - x - u0 * (m * N * a) = u := by rw [← hX, show u0 * (m * N * a) = u0 * N * (m * a) by grind, hu0]; grind
    have w2 : Y - y - u0 * (m * N * b) = v := by rw [← hY, show u0 * (m * N * b) = u0 * N * (m * b) by grind, hu0]; grind
    rw [w1] at o1
    rw [w2] at o2
    have w3 : X * (2 * k * u) + Y * (2 * k * v) = 2 * k * l := by
      have : κ * (X * u + Y * v - l) = 0 := by rw [ep, eq, er] at hL1; grind
      rcases Rat.mul_eq_zero.mp this with z | z
      · exact absurd z k0
      · grind
    rw [hK, o1, o2, w3] at o3
    have d1 : ((2 * K1 * P + (K2 * Q + K4 * R) : Int) : Rat) = j * (2 * k) / κ * p := by
      have : ((2 * K1 * P + (K2 * Q + K4 * R) : Int) : Rat) = 2 * K1 * P + (K2 * Q + K4 * R) := by simp only [Rat.intCast_mul, Rat.intCast_add]; rfl
      rw [this, pull3 c1 c2 c3 o1]
      exact pb_v3 k0 ep rfl
    have d2 : ((K2 * P + (2 * K3 * Q + K5 * R) : Int) : Rat) = j * (2 * k) / κ * q := by
      have : ((K2 * P + (2 * K3 * Q + K5 * R) : Int) : Rat) = K2 * P + (2 * K3 * Q + K5 * R) := by simp only [Rat.intCast_mul, Rat.intCast_add]; rfl
      rw [this, pull3 c1 c2 c3 o2]
      exact pb_v3 k0 eq rfl
    have d3 : ((K4 * P + (K5 * Q + 2 * K6 * R) : Int) : Rat) = j * (2 * k) / κ * r := by
      have : ((K4 * P + (K5 * Q + 2 * K6 * R) : Int) : Rat) = K4 * P + (K5 * Q + 2 * K6 * R) := by simp only [Rat.intCast_mul, Rat.intCast_add]; rfl
      rw [this, pull3 c1 c2 c3 o3]
      exact pb_v3 k0 er (by grind)
    have z0 : j * (2 * k) / κ ≠ 0 := by
      rw [Rat.div_def]
      exact rmul_ne (rmul_ne j0 (rmul_ne (by decide) hk0)) (fun z => by have := Rat.mul_inv_cancel _ k0; rw [z, Rat.mul_zero] at this; exact absurd this (by decide))
    have D0 : ∃ i ∈ [2 * K1 * P + (K2 * Q + K4 * R), K2 * P + (2 * K3 * Q + K5 * R), K4 * P + (K5 * Q + 2 * K6 * R)], i ≠ 0 := by
      by_cases z : p = 0
      · refine ⟨_, by simp, fun w : K2 * P + (2 * K3 * Q + K5 * R) = 0 => ?_⟩
        rw [w] at d2
        have zb : (q : Rat) ≠ 0 := fun w => pq0 ⟨z, by exact_mod_cast w⟩
        exact rmul_ne z0 zb d2.symm
      · refine ⟨_, by simp, fun w : 2 * K1 * P + (K2 * Q + K4 * R) = 0 => ?_⟩
        rw [w] at d1
        exact rmul_ne z0 (fun w => z (by exact_mod_cast w)) d1.symm
    have hR := told_uniq (κ := j * (2 * k) / κ) D0 (bare3 gd sg) z0 (by
      simp only [List.map_cons, List.map_nil, d1, d2, d3])
    have := x_tangent (s := s) (n := 358) (m := 200 + 200 + 1) (by decide) D0 hp
    rw [hR] at this
    exact this
  have hap : ∀ s, F "square_apart" [pl X Y, pl x y] s = some (fr (m * m * N), s) := by
    intro s
    have := x_square_apart (s := s) (a := X) (b := Y) (c := x) (d := y) (n := 200) (n' := 200) (m := 4) (m' := 4) (by decide)
    rw [hsq] at this
    exact this
  have hap2 : ∀ s, F "square_apart" [pl X Y, pl (x + u) (y + v)] s = some (fr (m * m * N), s) := by
    intro s
    have := x_square_apart (s := s) (a := X) (b := Y) (c := x + u) (d := y + v) (n := 200) (n' := 200) (m := 4 + 20 + 1) (m' := 4 + 20 + 1) (by decide)
    rw [← hX, ← hY, show (x + u + m * a - (x + u)) * (x + u + m * a - (x + u)) + (y + v + m * b - (y + v)) * (y + v + m * b - (y + v)) = m * m * (a * a + b * b) by grind, ← rN] at this
    rw [← hX, ← hY]
    exact this
  clear hon hsq hK hL1 hL2 hdet hm hs
  simp [q222, e1, ht]
  simp [q223, hfoot]
  simp [q224, f1, f2]
  simp [q225, f3, f4]
  simp [q226, f5, f6]
  simp [q227, hl]
  simp [q228, hw]
  have hsl : L.length < sizeLine := Nat.lt_of_le_of_lt hL (by decide)
  simp [q229, hsl]
  simp [q230, htan, hmir]
  simp [q232, hw']
  simp [q233, hmet]
  simp [q234, hof, htg, hap, hap2]
  refine doneI_end ?_
  simp only [wipeS, List.set]
end
section
variable {x y G : Rat} {xi yi a b c g N K1 K2 K3 K4 K5 K6 : Int} {tu : Sl} {s : DS}
theorem eq_dv {v n d : Rat} (hd : d ≠ 0) (h : v * d = n) : v = n / d := by
  rw [← h, Rat.div_def, Rat.mul_assoc, Rat.mul_inv_cancel _ hd, Rat.mul_one]
theorem cx_eq {x b a P Q G N t r g : Rat} (hg : N * G = g) (hP : 2 * P = t + r) (hQ : 2 * (Q * G) = t * r - G * G) : (x + (-(b * P) + a * Q)) * (2 * g * N) = 2 * g * N * x - b * (t + r) * g * N + a * (t * r * (N * N) - g * g) := by
  subst hg
  have : (x + (-(b * P) + a * Q)) * (2 * (N * G) * N) = 2 * (N * G) * N * x - b * (2 * P) * (N * G) * N + a * ((2 * (Q * G)) * (N * N)) := by grind
  rw [this, hP, hQ]
  grind
theorem corner_sz (h : Ge x y xi yi a b c g N G) {t r : Int} {P Q X : Rat} {e f xj : Int} (le : Le e 3) (lf : Le f 3) (lx : Le xj 3) (lt : Le t 47) (lr : Le r 47) (hX : X = xj) (hP : 2 * P = (t : Rat) + r) (hQ : 2 * (Q * G) = (t : Rat) * r - G * G) : Sz (X + (-(e * P) + f * Q)) 21 := by
  have lg := h.lg
  have lN := h.lN
  have d0 : 2 * g * N ≠ 0 := Int.mul_ne_zero (Int.mul_ne_zero (by decide) h.g0) h.N0
  have l1 : Le (2 * g * N) (2 * 20 * 13) := inferInstance
  have l2 : Le (2 * g * N * xj - e * (t + r) * g * N + f * (t * r * (N * N) - g * g)) (2 * 20 * 13 * 3 + 3 * (47 + 47) * 20 * 13 + 3 * (47 * 47 * (13 * 13) + 20 * 20)) := inferInstance
  have e0 := cx_eq (x := X) (b := e) (a := f) h.eG hP hQ
  have e1 : ((2 * g * N : Int) : Rat) = 2 * g * N := by simp only [Rat.intCast_mul]; rfl
  have e2 : ((2 * g * N * xj - e * (t + r) * g * N + f * (t * r * (N * N) - g * g) : Int) : Rat) = 2 * g * N * X - e * (t + r) * g * N + f * (t * r * (N * N) - g * g) := by
    rw [hX]
    simp only [Rat.intCast_mul, Rat.intCast_add, Rat.intCast_sub]; rfl
  have d1 : ((2 * g * N : Int) : Rat) ≠ 0 := fun z => d0 (by exact_mod_cast z)
  rw [← e2, ← e1] at e0
  rw [eq_dv d1 e0]
  exact szquo d0 (l2.szi (by decide)) (l1.szi (by decide))
theorem corner_ok (h : Ge x y xi yi a b c g N G) {t p q r t' p' q' r' : Int} {κ u v l κ' u' v' l' P Q : Rat} (h1 : Ln x y a b G t p q r κ u v l) (h2 : Ln x y a b G t' p' q' r' κ' u' v' l') (ht : t ≠ t') (hP : 2 * P = (t : Rat) + t') (hQ : 2 * (Q * G) = (t : Rat) * t' - G * G) (s : DS) :
    F "met" [rv p q r, rv p' q' r'] s = some (pl (x + (-(b * P) + a * Q)) (y + (a * P + b * Q)), s) := by
  have i1 := h1.ip
  have i2 := h1.iq
  have i3 := h1.ir
  have j1 := h2.ip
  have j2 := h2.iq
  have j3 := h2.ir
  have tn : (t : Rat) - t' ≠ 0 := by
    intro z
    apply ht
    have : (t : Rat) = t' := by grind
    exact_mod_cast this
  refine x_metU (n := 160) (n' := 160) (by decide) ?_ ?_ ?_
  · rw [pb_det h1.eu h1.ev h2.eu h2.ev h.rN h1.ep h1.eq h2.ep h2.eq]
    exact rmul_ne (rmul_ne h1.k0 h2.k0) (rmul_ne (rmul_ne h.N1 h.G0) tn)
  · exact pb_corner h1.eu h1.ev h.rN h1.el hP hQ rfl rfl h1.ep h1.eq h1.er
  · exact pb_corner (r := (t : Rat)) h2.eu h2.ev h.rN h2.el (by rw [hP]; grind) (by rw [hQ]; grind) rfl rfl h2.ep h2.eq h2.er
theorem pq_ex {G : Rat} (g0 : G ≠ 0) (t r : Rat) : ∃ P Q : Rat, 2 * P = t + r ∧ 2 * (Q * G) = t * r - G * G := by
  refine ⟨(t + r) / 2, (t * r - G * G) / (2 * G), by grind, ?_⟩
  exact pb_half g0 rfl
theorem t236 (h : Ge x y xi yi a b c g N G) {t1 p1 q1 r1 t2 p2 q2 r2 t3 p3 q3 r3 : Int} {κ1 u1 v1 l1 κ2 u2 v2 l2 κ3 u3 v3 l3 : Rat} (h1 : Ln x y a b G t1 p1 q1 r1 κ1 u1 v1 l1) (h2 : Ln x y a b G t2 p2 q2 r2 κ2 u2 v2 l2) (h3 : Ln x y a b G t3 p3 q3 r3 κ3 u3 v3 l3) (m1 : Le t1 47) (m2 : Le t2 47) (m3 : Le t3 47) (d1 : t1 ≠ t2) (d2 : t1 ≠ t3) (d3 : t2 ≠ t3) (ri co : Sl) (s : DS) :
    DoneI wp (fun ρ => ρ = E .no .no .no .no .no .no .no .no .no .no .no .no .no .no .no .no .no .no .no .no .no .no) (evSs F G0 q236 (E tu (.val (pl x y)) ri co (.val (.int a)) (.val (.int b)) (.val (.int c)) (.own [rv p1 q1 r1, rv p2 q2 r2, rv p3 q3 r3]) .no .no .no .no .no .no .no .no .no .no .no .no .no .no) s) := by
  have g0 := h.G0
  obtain ⟨P1, Q1, a1, b1⟩ := pq_ex g0 t1 t2
  obtain ⟨P2, Q2, a2, b2⟩ := pq_ex g0 t1 t3
  obtain ⟨P3, Q3, a3, b3⟩ := pq_ex g0 t2 t3
  have c1 := corner_ok h h1 h2 d1 a1 b1
  have c2 := corner_ok h h1 h3 d2 a2 b2
  have c3 := corner_ok h h2 h3 d3 a3 b3
  have la := h.la.mono (m := 3) (by decide)
  have lb := h.lb
  have flip : ∀ P Q : Rat, a * P + b * Q = -((-a : Int) * P) + b * Q := fun P Q => by rw [Rat.intCast_neg]; grind
  have lna : Le (-a) 3 := ⟨by have := la.le; omega⟩
  have sx1 := corner_sz h lb la h.lx m1 m2 h.ex a1 b1
  have sx2 := corner_sz h lb la h.lx m1 m3 h.ex a2 b2
  have sx3 := corner_sz h lb la h.lx m2 m3 h.ex a3 b3
  have sy1 : Sz (y + (a * P1 + b * Q1)) 21 := by rw [flip]; exact corner_sz h lna lb h.ly m1 m2 h.ey a1 b1
  have sy2 : Sz (y + (a * P2 + b * Q2)) 21 := by rw [flip]; exact corner_sz h lna lb h.ly m1 m3 h.ey a2 b2
  have sy3 : Sz (y + (a * P3 + b * Q3)) 21 := by rw [flip]; exact corner_sz h lna lb h.ly m2 m3 h.ey a3 b3
  have nz : ∀ {i j : Int}, i ≠ j → (i : Rat) - j ≠ 0 := by
    intro i j hn z
    apply hn
    have : (i : Rat) = j := by grind
    exact_mod_cast this
  have hA := pb_area (x := x) (y := y) h.rN h.N1 g0 a1 b1 a2 b2 a3 b3 (nz d1) (nz d2) (nz d3)
  have g2 : 4 * (G * G) ≠ 0 := rmul_ne (by decide) (rmul_ne g0 g0)
  have g4 : 4 * G ≠ 0 := rmul_ne (by decide) g0
  obtain ⟨p, hp⟩ : ∃ p, (G * G * ((t1 : Rat) + t2 + t3) - t1 * t2 * t3) / (4 * (G * G)) = p := ⟨_, rfl⟩
  obtain ⟨q, hq⟩ : ∃ q, ((t1 : Rat) * t2 + t1 * t3 + t2 * t3 - G * G) / (4 * G) = q := ⟨_, rfl⟩
  have hp' : 4 * (G * G) * p = G * G * ((t1 : Rat) + t2 + t3) - t1 * t2 * t3 := by
    rw [← hp, Rat.mul_comm]; exact Rat.div_mul_cancel g2
  have hq' : 4 * G * q = (t1 : Rat) * t2 + t1 * t3 + t2 * t3 - G * G := by
    rw [← hq, Rat.mul_comm]; exact Rat.div_mul_cancel g4
  have o1 := pb_circle g0 a1 b1 hp' hq'
  have o2 := pb_circle g0 a2 b2 (p := p) (q := q) (z := t2) (by rw [hp']; grind) (by rw [hq']; grind)
  have o3 := pb_circle g0 a3 b3 (p := p) (q := q) (z := t1) (by rw [hp']; grind) (by rw [hq']; grind)
  obtain ⟨X, hX⟩ : ∃ X, X = x + (-(b * p) + a * q) := ⟨_, rfl⟩
  obtain ⟨Y, hY⟩ : ∃ Y, Y = y + (a * p + b * q) := ⟨_, rfl⟩
  have w1 := pb_len (P := P1) (Q := Q1) h.rN rfl rfl hX hY
  have w2 := pb_len (P := P2) (Q := Q2) h.rN rfl rfl hX hY
  have w3 := pb_len (P := P3) (Q := Q3) h.rN rfl rfl hX hY
  have w0 := pb_len (P := 0) (Q := 0) (x := x) (y := y) (X := x) (Y := y) h.rN (by grind) (by grind) hX hY
  rw [o1] at w1
  rw [o2] at w2
  rw [o3] at w3
  rw [show (0 - p) * (0 - p) + (0 - q) * (0 - q) = p * p + q * q by grind] at w0
  have iG := h.sG
  have it1 : SzI t1 6 := m1.szi (by decide)
  have it2 : SzI t2 6 := m2.szi (by decide)
  have it3 : SzI t3 6 := m3.szi (by decide)
  have ip : Sz p 90 := by rw [← hp]; exact Sz.mono (n := 5 + 5 + (6 + 1 + (6 + 1) + 1 + (6 + 1) + 1) + (6 + 1 + (6 + 1) + (6 + 1)) + 1 + (3 + (5 + 5))) inferInstance (by decide)
  have iq : Sz q 90 := by rw [← hq]; exact Sz.mono (n := 6 + 1 + (6 + 1) + (6 + 1 + (6 + 1)) + 1 + (6 + 1 + (6 + 1)) + 1 + (5 + 5) + 1 + (3 + 5)) inferInstance (by decide)
  have ia : SzI a 2 := la.szi (by decide)
  have ib : SzI b 2 := lb.szi (by decide)
  have ix := h.sx
  have iy := h.sy
  have iX : Sz X 300 := by rw [hX]; exact Sz.mono (n := 4 + (2 + 1 + 90 + (2 + 1 + 90) + 1) + 1) inferInstance (by decide)
  have iY : Sz Y 300 := by rw [hY]; exact Sz.mono (n := 4 + (2 + 1 + 90 + (2 + 1 + 90) + 1) + 1) inferInstance (by decide)
  have hS := x_square_apart (s := s) (a := X) (b := Y) (c := x) (d := y) (n := 300) (n' := 300) (m := 4) (m' := 4) (by decide)
  rw [w0] at hS
  clear hX hY
  generalize x + (-(b * P1) + a * Q1) = X1 at *
  generalize x + (-(b * P2) + a * Q2) = X2 at *
  generalize x + (-(b * P3) + a * Q3) = X3 at *
  generalize y + (a * P1 + b * Q1) = Y1 at *
  generalize y + (a * P2 + b * Q2) = Y2 at *
  generalize y + (a * P3 + b * Q3) = Y3 at *
  have hT := fun s => x_is_triangle (s := s) (a := X1) (b := Y1) (c := X2) (d := Y2) (e := X3) (f := Y3) (n := 21) (by decide)
  have hR := fun s => x_round_of (s := s) (a := X1) (b := Y1) (c := X2) (d := Y2) (e := X3) (g := Y3) (X := X) (Y := Y) (n := 21) (l := 300) (by decide) (by decide) hA (w2.trans w1.symm) (w3.trans w1.symm)
  rw [w1] at hR
  rw [decide_eq_true hA] at hT
  simp [q236, c1, c2, c3]
  simp [q237, hT]
  simp [q238, hR]
  simp [q239, hS]
  refine doneI_end ?_
  simp only [wipeS, List.set]
theorem turn_one {wq : List Nat} {ρ ρ' : List Sl} {I : List Sl → Prop} {i : Nat} {x : Str} {px : Pos} {b : ISs} {w : W} {l : List W} {s : DS} (h : DoneI wq I (evSs F G0 b ρ' s)) (hρ : ρ.set i (.val w) = ρ') : ∃ ρ1 s1, I ρ1 ∧ forGo (turn F G0 (.name i x px) b wq) (w :: l) (ρ, s) = forGo (turn F G0 (.name i x px) b wq) l (ρ1, s1) := by
  obtain ⟨ρ1, s1, e, hw⟩ := h
  refine ⟨_, s1, hw, ?_⟩
  rw [forGo_cons]
  unfold turn
  rw [asg_name, bd_some]
  show ((evSs F G0 b (ρ.set i (.val w)) s).bd _).bd _ = _
  rw [hρ, e, bd_some, forK_nx, bd_some, forN_nx]
theorem t219 (C : Cn x y 1 a b c K1 K2 K3 K4 K5 K6) (h : Ge x y xi yi a b c g N G) (s : DS) :
    DoneI wp (fun ρ => ρ = E .no .no .no .no .no .no .no .no .no .no .no .no .no .no .no .no .no .no .no .no .no .no) (evSs F G0 q219 (E tu (.val (pl x y)) (.val (rv a b c)) (.val (cv K1 K2 K3 K4 K5 K6)) .no .no .no .no .no .no .no .no .no .no .no .no .no .no .no .no .no .no) s) := by
  simp [q219]
  simp [q220]
  obtain ⟨t1, p1, q1, r1, κ1, u1, v1, l1, a1, b1, L1, D1⟩ := t222 (tu := tu) C h (k := 0) (by decide) (by decide) [] (by decide) s
  simp only [List.nil_append, List.cons_append] at D1
  obtain ⟨ρ1, s1, rfl, e1⟩ := turn_one (ρ := E tu (.val (pl x y)) (.val (rv a b c)) (.val (cv K1 K2 K3 K4 K5 K6)) (.val (.int a)) (.val (.int b)) (.val (.int c)) (.own []) .no .no .no .no .no .no .no .no .no .no .no .no .no .no) (i := 10) (x := "k") (px := ⟨221,12,221,13⟩) (w := .int 0) (l := [.int 1, .int 2]) D1 (by simp only [List.set])
  obtain ⟨t2, p2, q2, r2, κ2, u2, v2, l2, a2, b2, L2, D2⟩ := t222 (tu := tu) C h (k := 1) (by decide) (by decide) [rv p1 q1 r1] (by simp) s1
  simp only [List.nil_append, List.cons_append] at D2
  obtain ⟨ρ2, s2, rfl, e2⟩ := turn_one (ρ := E tu (.val (pl x y)) (.val (rv a b c)) (.val (cv K1 K2 K3 K4 K5 K6)) (.val (.int a)) (.val (.int b)) (.val (.int c)) (.own [rv p1 q1 r1]) .no .no .no .no .no .no .no .no .no .no .no .no .no .no) (i := 10) (x := "k") (px := ⟨221,12,221,13⟩) (w := .int 1) (l := [.int 2]) D2 (by simp only [List.set])
  obtain ⟨t3, p3, q3, r3, κ3, u3, v3, l3, a3, b3, L3, D3⟩ := t222 (tu := tu) C h (k := 2) (by decide) (by decide) [rv p1 q1 r1, rv p2 q2 r2] (by simp) s2
  simp only [List.nil_append, List.cons_append] at D3
  obtain ⟨ρ3, s3, rfl, e3⟩ := turn_one (ρ := E tu (.val (pl x y)) (.val (rv a b c)) (.val (cv K1 K2 K3 K4 K5 K6)) (.val (.int a)) (.val (.int b)) (.val (.int c)) (.own [rv p1 q1 r1, rv p2 q2 r2]) .no .no .no .no .no .no .no .no .no .no .no .no .no .no) (i := 10) (x := "k") (px := ⟨221,12,221,13⟩) (w := .int 2) (l := []) D3 (by simp only [List.set])
  have e := e1.trans (e2.trans e3)
  simp [q221, -forGo_cons, e]
  exact t236 h L1 L2 L3 (le_of (by omega) (by omega)) (le_of (by omega) (by omega)) (le_of (by omega) (by omega)) (by omega) (by omega) (by omega) _ _ s3
theorem t216 (br : Bare [a, b, c]) (h : Ge x y xi yi a b c g N G) (ic : SzI c 4) (s : DS) :
    DoneI wp (fun ρ => ρ = E .no .no .no .no .no .no .no .no .no .no .no .no .no .no .no .no .no .no .no .no .no .no) (evSs F G0 q216 (E tu (.val (pl x y)) (.val (rv a b c)) .no .no .no .no .no .no .no .no .no .no .no .no .no .no .no .no .no .no .no) s) := by
  have ia : SzI a 4 := h.la.szi (by decide)
  have ib : SzI b 4 := h.lb.szi (by decide)
  have ix := h.sx
  have iy := h.sy
  have N1 := h.N1
  have N0 := h.N0
  have rN := h.rN
  have eN := h.eN
  have iO : Sz (1 : Rat) 4 := ⟨by decide, by decide⟩
  obtain ⟨u, hu⟩ : ∃ u, (1 : Rat) / (N : Rat) = u := ⟨_, rfl⟩
  have eu : u * ((a : Rat) * a + b * b) = 1 := by rw [← hu, ← rN]; exact Rat.div_mul_cancel N1
  obtain ⟨W0, hW⟩ : ∃ W0, W0 = [1 - 1 / (N : Rat) * (a * a), -2 * (1 / (N : Rat) * (a * b)), 1 - 1 / (N : Rat) * (b * b), -2 * (x + 1 / (N : Rat) * (a * c)), -2 * (y + 1 / (N : Rat) * (b * c)), x * x + y * y - 1 / (N : Rat) * (c * c)] := ⟨_, rfl⟩
  have nz : ∃ i ∈ W0, i ≠ 0 := by
    rw [hW, hu]
    by_cases z1 : 1 - u * ((a : Rat) * a) = 0
    · by_cases z2 : -2 * (u * ((a : Rat) * b)) = 0
      · refine ⟨_, List.mem_cons_of_mem _ (List.mem_cons_of_mem _ (List.mem_cons_self ..)), fun z3 => ?_⟩
        exact nz3 z1 z2 z3
      · exact ⟨_, List.mem_cons_of_mem _ (List.mem_cons_self ..), z2⟩
    · exact ⟨_, List.mem_cons_self .., z1⟩
  obtain ⟨hs, hw⟩ := x_conic_of (s := s) (x := x) (y := y) (t := 1) (a := a) (b := b) (c := c) (n := 4) (by decide) eN.symm N0 W0 hW nz
  have hb := bare_whole nz
  rw [hu] at hW
  obtain ⟨K1, K2, K3, K4, K5, K6, k, hK, k0, e1, e2, e3, e4, e5, e6, j1, j2, j3, j4, j5, j6⟩ := whole6S (n := 11 * 4 + 7) (hs (1 - u * (a * a)) (by rw [hW]; simp)) (hs (-2 * (u * (a * b))) (by rw [hW]; simp)) (hs (1 - u * (b * b)) (by rw [hW]; simp)) (hs (-2 * (x + u * (a * c))) (by rw [hW]; simp)) (hs (-2 * (y + u * (b * c))) (by rw [hW]; simp)) (hs (x * x + y * y - u * (c * c)) (by rw [hW]; simp)) (by rw [← hW]; exact nz)
  rw [← hW] at hK
  rw [hK] at hw hb
  simp only [List.map_cons, List.map_nil] at hw
  have C : Cn x y 1 a b c K1 K2 K3 K4 K5 K6 := ⟨ix, iy, iO, ia, ib, ic, j1, j2, j3, j4, j5, j6, by rw [← eN]; exact N0, by decide, by rw [h.eg]; exact fun z => h.g0 (by exact_mod_cast z), hb, br, k, u, k0, eu, ⟨e1, e2, e3, e4, e5, e6⟩⟩
  have hk := fun s => x_kind_of (s := s) (a := K1) (b := K2) (c := K3) (d := K4) (e := K5) (f := K6) (n := 358) (by decide)
  rw [C.kind, if_neg (by decide), if_pos (by decide)] at hk
  obtain ⟨A, B, AB, hf, hp, hm, _⟩ := C.foc
  have hp := hp rfl
  have hr := C.rim
  have ne : ∀ s, F "is_focus" [cv K1 K2 K3 K4 K5 K6, pl x y] s = _ := hf x y 4 ix iy (by decide)
  rw [decide_eq_true (.inl ⟨Rat.sub_self, Rat.sub_self⟩)] at ne
  simp [q216, hw]
  simp [q217, hk, hp, hr, ne]
  exact t219 C h s
abbrev whl0 : IS := .whl (.call "is_on" (.cons (.var 4 "rim" ⟨214,20,214,23⟩) (.cons (.var 3 "focus" ⟨214,25,214,30⟩) .nil)) ⟨214,14,214,19⟩ ⟨214,14,214,31⟩) q215 [] [] ⟨214,8,215,52⟩
theorem tw (ex : x = xi) (ey : y = yi) (lx : Le xi 3) (ly : Le yi 3) (la : Le a 2) (lb : Le b 3) (lc : Le c 4) (br : Bare [a, b, c]) (N0 : a * a + b * b ≠ 0) (s : DS) : ∃ p q r : Int, evS F G0 whl0 (E tu (.val (pl x y)) (.val (rv a b c)) .no .no .no .no .no .no .no .no .no .no .no .no .no .no .no .no .no .no .no) s = some (.nx, E tu (.val (pl x y)) (.val (rv p q r)) .no .no .no .no .no .no .no .no .no .no .no .no .no .no .no .no .no .no .no, s) ∧ Le p 2 ∧ Le q 3 ∧ Le r 5 ∧ Bare [p, q, r] ∧ p * p + q * q ≠ 0 ∧ (p : Rat) * x + q * y + r ≠ 0 := by
  have ix : Sz x 4 := by
    have : SzI xi 3 := lx.szi (by decide)
    rw [ex]; exact inferInstance
  have iy : Sz y 4 := by
    have : SzI yi 3 := ly.szi (by decide)
    rw [ey]; exact inferInstance
  have key : ∀ a b c : Int, Le a 2 → Le b 3 → Le c 5 → ∀ s, F "is_on" [rv a b c, pl x y] s = some (.bl (decide ((a : Rat) * x + b * y + c = 0)), s) := by
    intro a b c ha hb hc s
    have ia : SzI a 4 := ha.szi (by decide)
    have ib : SzI b 4 := hb.szi (by decide)
    have ic : SzI c 4 := hc.szi (by decide)
    exact x_is_on (n := 4) (m := 4) (by decide)
  have f1 := key a b c la lb (lc.mono (by decide)) s
  by_cases z : (a : Rat) * x + b * y + c = 0
  · have jc : Le (c + 1) 5 := ⟨by have := lc.le; omega⟩
    obtain ⟨p, q, r, k, ht, hk, e1, e2, e3, br', N0', m1, m2, m3⟩ := toldLe la lb jc (by decide) (by decide) (by decide) N0
    rw [Rat.intCast_add] at e3
    have hl := lin_one hk e1 e2 e3 z
    have f2 := key p q r m1 m2 m3 s
    rw [decide_eq_true z] at f1
    rw [decide_eq_false hl] at f2
    refine ⟨p, q, r, ?_, m1, m2, m3, br', N0', hl⟩
    rw [s_whl]
    simp [f1]
    simp [q215, ht]
    rw [s_whl]
    simp [f2]
  · rw [decide_eq_false z] at f1
    refine ⟨a, b, c, ?_, la, lb, lc.mono (by decide), br, N0, z⟩
    rw [s_whl]
    simp [f1]
theorem place31 (s : DS) : ∃ (i j : Int) (s' : DS), F "_law_place" [.st, .int 3, .int 1] s = some (pl (i : Rat) (j : Rat), s') ∧ Le i 3 ∧ Le j 3 := by
  have one : ∀ s, ∃ (i : Int) (s' : DS), F "_law_fraction" [.st, .int 3, .int 1] s = some (fr (i : Rat), s') ∧ Le i 3 := by
    intro s
    obtain ⟨v1, s1, e1, l1, u1⟩ := drw_ok s 7 (by decide)
    obtain ⟨v2, s2, e2, l2, u2⟩ := drw_ok s1 1 (by decide)
    have hv : v2 = 0 := by omega
    subst hv
    refine ⟨v1 - 3, s2, ?_, le_of (by omega) (by omega)⟩
    have i1 : SzI (1 : Int) 2 := ⟨by decide⟩
    have hq := fun s => x__law_frac (s := s) (p := v1 - 3) (q := 1) (n := 2) (by decide) (by decide)
    have e : ((v1 - 3 : Int) : Rat) / ((1 : Int) : Rat) = ((v1 - 3 : Int) : Rat) := by
      rw [show ((1 : Int) : Rat) = 1 from rfl, Rat.div_def, show (1 : Rat)⁻¹ = 1 from by decide +kernel, Rat.mul_one]
    rw [e] at hq
    generalize hw : v1 - 3 = z at *
    rw [F__law_fraction]
    simp [b__law_fraction, e1, e2, hw, hq]
  obtain ⟨i, s1, e1, h1⟩ := one s
  obtain ⟨j, s2, e2, h2⟩ := one s1
  refine ⟨i, j, s2, ?_, h1, h2⟩
  generalize (i : Rat) = I at *
  generalize (j : Rat) = J at *
  rw [F__law_place]
  simp [b__law_place, e1, e2]
theorem t212 (s : DS) (w : W) : DoneW wp (E .no .no .no .no .no .no .no .no .no .no .no .no .no .no .no .no .no .no .no .no .no .no) (evSs F G0 q212 (E (.val w) .no .no .no .no .no .no .no .no .no .no .no .no .no .no .no .no .no .no .no .no .no) s) := by
  obtain ⟨xi, yi, s1, e1, lx, ly⟩ := place31 s
  obtain ⟨v1, s2, f1, l1, u1⟩ := drw_ok s1 5 (by decide)
  obtain ⟨v2, s3, f2, l2, u2⟩ := drw_ok s2 3 (by decide)
  obtain ⟨v3, s4, f3, l3, u3⟩ := drw_ok s3 9 (by decide)
  have i1 : Le (v1 - 2) 2 := le_of (by omega) (by omega)
  have i2 : Le (1 + v2) 3 := le_of (by omega) (by omega)
  have i3 : Le (v3 - 4) 4 := le_of (by omega) (by omega)
  have n0 : (v1 - 2) * (v1 - 2) + (1 + v2) * (1 + v2) ≠ 0 := by
    have h1 : 0 < (1 + v2) * (1 + v2) := Int.mul_pos (by omega) (by omega)
    have h2 : 0 ≤ (v1 - 2) * (v1 - 2) := isq_nn _
    omega
  obtain ⟨a, b, c, k, ht, hk, g1, g2, g3, br, N0, j1, j2, j3⟩ := toldLe i1 i2 i3 (by decide) (by decide) (by decide) n0
  obtain ⟨x, ex⟩ : ∃ x : Rat, x = xi := ⟨_, rfl⟩
  obtain ⟨y, ey⟩ : ∃ y : Rat, y = yi := ⟨_, rfl⟩
  rw [← ex, ← ey] at e1
  obtain ⟨p, q, r, hw, k1, k2, k3, br', N0', g0⟩ := tw (tu := .val w) ex ey lx ly j1 j2 j3 br N0 s4
  obtain ⟨N, hN⟩ : ∃ N, N = p * p + q * q := ⟨_, rfl⟩
  obtain ⟨g, hg⟩ : ∃ g, g = p * xi + q * yi + r := ⟨_, rfl⟩
  have hg' : (p : Rat) * x + q * y + r = g := by rw [hg, ex, ey]; simp only [Rat.intCast_mul, Rat.intCast_add]
  have N1 : N ≠ 0 := by rw [hN]; exact N0'
  have N2 : (N : Rat) ≠ 0 := fun z => N1 (by exact_mod_cast z)
  have q1 : Le (p * xi + q * yi + r) (2 * 3 + 3 * 3 + 5) := inferInstance
  have q2 : Le (p * p + q * q) (2 * 2 + 3 * 3) := inferInstance
  have ge : Ge x y xi yi p q r g N ((g : Rat) / (N : Rat)) := ⟨ex, ey, lx, ly, k1, k2, by rw [hg]; exact q1.mono (by decide), by rw [hN]; exact q2.mono (by decide), hN, hg', N1, fun z => g0 (by rw [hg', z]; rfl), by rw [Rat.mul_comm]; exact Rat.div_mul_cancel N2⟩
  obtain ⟨ρ', s', e, hI⟩ := t216 (tu := .val w) br' ge (k3.szi (by decide)) s4
  refine ⟨ρ', s', ?_, hI⟩
  rw [← e]
  simp [q212, e1]
  simp [q213, f1, f2, f3, ht]
  simp [q214, hw]
theorem law_ev (ns : List Int) : ∃ r, evSs F G0 b_law (.no :: .val .st :: List.replicate 22 .no) (st0 ns) = some (.ret (.bl true), r) := by
  obtain ⟨s', ht⟩ := turns_ok (F := F) (G := G0) (i := 2) (x := "turn") (px := ⟨211,8,211,12⟩) (b := q212) (wp := wp) (ρ0 := E .no .no .no .no .no .no .no .no .no .no .no .no .no .no .no .no .no .no .no .no .no .no) [.int 0, .int 1, .int 2] (fun w s => t212 s w) (st0 ns)
  simp [b_law, q211, -forGo_cons, ht]
  simp [q241]
end

theorem law_all {cs : List (Addr × Addr)} {l : PySem.W.OpenLaw} {w : World} {K : PySem.W.Frag} {h : Heap} {mg : Str → Option Value} {fa : Addr} (KX : K.In h) (GX : h.Ns mainGlobals mg) (hfa : mg "law" = some (.ref fa)) (D : ∀ d ∈ ds, DefAl K d.x d.st) (DD : DefAt K "_law_draw" s__law_draw) (DT : DefAt K "_law_state" s__law_state) (DL : DefAt K "law" s_law) (HTb : ∀ d ∈ ds, d.tb = true → ∃ p ∈ cs, DefTab K d.x p.1)
    (Z : ∀ x ∈ T0.bl, PySem.W.nsIn K mainGlobals x = some none) (ZG : PySem.W.nsIn K mainGlobals "gcd" = some (some (.builtin "math.gcd"))) (ZC : True) (ZI : True) : 
    ∃ fd : FuncData, (∀ (s : Shared) (v : Value), BindsTo s fd ⟨[v], []⟩ [("script", v)]) ∧ ∀ base : Heap, K.In base → base.Ns mainGlobals mg → (∀ p ∈ cs, GxR.TabB base mg p.1 p.2) → FnOk l.prog w K mg base CX0 (55) fa fd ["script"] (spLaw K (cs.map (·.2))) := by
  obtain ⟨fl, fdl, al, FL⟩ := DL.ex
  have e := hfa.symm.trans (PySem.W.mg_of KX GX al)
  cases e
  obtain ⟨fd, fdd, ad, FDd⟩ := DD.ex
  obtain ⟨ft, fdt, at', FT⟩ := DT.ex
  have z : ∀ x ∈ T0.bl, mg x = none := fun x hx => PySem.W.mg_none_of KX GX (Z x hx)
  have TO : TabOk (mkD K (cs.map (·.2))) G0 K mg T0 := ⟨fun _ _ => rfl, (fun x hx => by cases hx), z, fun _ => PySem.W.mg_of KX GX ZG, fun z => absurd z (by decide)⟩
  refine ⟨fdl, fun s v => ?_, fun base _ _ TBs => ?_⟩
  · obtain ⟨oc, od, kV, doc, pm, an, cdv, ct, osl, rfl, lk, hcd⟩ := FL.ex
    exact .of_eq rfl
  · have L0 : ∀ g ∈ (["_law_draw"] : List Str), Lib (mkD K (cs.map (·.2))) F l.prog w K mg base 1 g := fun g hg => by
      rw [List.mem_singleton] at hg
      subst hg
      exact ok_draw F_draw FDd (PySem.W.mg_of KX GX ad) (z _ (by decide)) (z _ (by decide)) (fun _ _ _ _ _ _ _ us hl => match us, hl with | [_, _], _ => rfl)
    have C := chain_ok (P := l.prog) (w := w) (base := base) TO ⟨h, KX, GX⟩ ds ["_law_draw"] 1 L0 (prog_chain (fun d hd => prog_eq rows d hd) abs_ looks) D (fun d hd z => let ⟨p, hp, h1⟩ := HTb d hd z; ⟨p.1, p.2, h1, TBs p hp, tabP_mkD (List.mem_map.mpr ⟨p, hp, rfl⟩)⟩)
    have look : d_law.look { T0 with fl := "_law_draw" :: ds.map (·.x) } = true := by decide +kernel
    have TO' : TabOk (mkD K (cs.map (·.2))) G0 K mg { T0 with fl := "_law_draw" :: ds.map (·.x) } := ⟨TO.hK, TO.glb, TO.blt, TO.gcd, TO.isq⟩
    refine FnOk.mono (law_fn (k := 1 + ds.length) rfl TO' (fun g hg => C g ?_) look rfl rfl rfl FL ((ok_state (k := 0) FT (z _ (by decide)) (z _ (by decide))).mono (k := 1 + ds.length) (show 1 ≤ 1 + ds.length from by decide)) (FT.binds fun _ _ _ _ _ _ us hl => match us, hl with | [_], _ => rfl) (PySem.W.mg_of KX GX at') FT.kp (by decide +kernel) law_ev) (show 1 + ds.length + 1 ≤ 55 from by decide)
    rcases List.mem_cons.mp hg with rfl | hg
    · exact .inl (by simp)
    · exact .inr hg
end K62
open PySem PySem.W PyProof.Rows L2 MP K62
set_option maxHeartbeats 0 in
theorem PySem.Challenge.cw_threecorners_k62_whole_parabolas_and_foc_holds : PySem.Challenge.rw_threecorners_k62_whole_parabolas_and_foc.Holds := by
  w_on; o_law; k_head; (case hw => w_witness2)
  k_fill
  refine L2.walk_of (l := PySem.Challenge.rw_threecorners_k62_whole_parabolas_and_foc) (n := 63) (k := 55) (x := "script") (CX := fun _ => L2.CX0) (sp := fun w => MP.spLaw _ []) rfl (by decide) rfl ⟨rfl, by decide, by decide⟩ (fun w h Y => PySem.W.kIn_of Y) ?F (fun _ _ a ns hl _ hS => ⟨a, ns, rfl, hS, hl, fun _ hP => absurd hP (by simp), fun _ => rfl⟩) (fun _ _ _ _ _ h => h)
  case F =>
    intro w mg fa h KX G hmg
    refine MP.no_tabs (K62.law_all (cs := []) KX G hmg ?D ?DD ?DT ?DL ?HTb ?Z ?ZG ?ZC ?ZI)
    case HTb =>
      intro d hd z
      have := List.all_eq_true.mp (show (K62.ds.all fun d => !d.tb) = true from rfl) d hd
      simp [z] at this
    case D =>
      intro d hd
      simp only [K62.ds, List.mem_cons, List.not_mem_nil, or_false] at hd
      rcases hd with rfl | rfl | rfl | rfl | rfl | rfl | rfl | rfl | rfl | rfl | rfl | rfl | rfl | rfl | rfl | rfl | rfl | rfl | rfl | rfl | rfl | rfl | rfl | rfl | rfl | rfl | rfl | rfl | rfl | rfl | rfl | rfl | rfl | rfl | rfl | rfl | rfl | rfl | rfl | rfl | rfl | rfl | rfl | rfl | rfl | rfl | rfl | rfl | rfl | rfl | rfl | rfl
      all_goals exact DefAl.mk' (by k_is) (by k_is) (by k_is) (by k_is)
    case DD => exact DefAt.mk' (by k_is) (by k_is) (by k_is) (by k_is)
    case DT => exact DefAt.mk' (by k_is) (by k_is) (by k_is) (by k_is)
    case DL => exact DefAt.mk' (by k_is) (by k_is) (by k_is) (by k_is)
    case Z =>
      intro x hx
      simp only [K62.T0, List.mem_cons, List.not_mem_nil, or_false] at hx
      rcases hx with rfl | rfl | rfl | rfl | rfl | rfl | rfl | rfl <;> k_is
    case ZG => first | trivial | k_is
    case ZC => exact trivial
    case ZI => first | trivial | k_is

