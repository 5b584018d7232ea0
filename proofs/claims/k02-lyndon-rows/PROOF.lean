import PyProof.Rows.All
import Wide.All
import OpenK.AllK
import Wide.FinOn
import HandS.ForMost
import HandS.TupAny
import HandS.TupMul
import HandS.Wide
import HandS.IsInst
import HandS.CallLocal
import HandS.SortOrd
import HandS.Deep
import HandS.Conv
import HandS.Rev
import HandS.Zip
import KE.KDictKeyed
import KE.SortData
import KE.DataCmp
import KE.LtData
import PyProof.Rows.SumAny
import PySem.Challenge.RW_twowoven_k02_lyndon_rows
set_option Elab.async false
set_option linter.all false
set_option maxRecDepth 100000
set_option maxHeartbeats 4000000
namespace Tw
open PySem PySem.Spec PyProof.Rows L2

/-! ### pure data -/
inductive D where
  | non
  | bl (b : Bool)
  | int (i : Int)
  | str (x : Str)
  | tup (xs : List D)
  | lst (xs : List D)
  | dic (kvs : List (D × D))
  | cell
  | fn (i : Nat)
  /-- a list of the written part (or the script): read alone -/
  | kst (xs : List D)

inductive Slot where
  | un
  | sh (d : D)
  | ow (d : D)
abbrev Env' := List Slot
abbrev ER := Option (D × Bool × Int)
abbrev OR := Option (D × Int)
abbrev EM := Env' → Int → ER
abbrev OM := Env' → Int → OR
abbrev TM := Env' → Int → Option (Bool × Int)
abbrev AM := Env' → Int → Option (List D × Int)

/-- the law's context: program, world, written part, globals; the draw state's address; functions handed on as values -/
structure Gc where
  P : Program
  w : World
  K : PySem.W.Frag
  mg : Str → Option Value
  base : Heap
  cl : Option Addr
  fn : Nat → Option Addr

/-- a dict whose keys are tuples (nested data), by the entries of its object -/
def dN (g : Gc) (a : Addr) (xs : List (NestedKey × Addr × Value)) : HO :=
  .ext fun h => (a == sysModules) = false ∧ ∃ o es ep, h.get? a = some o ∧ o.ExactDict ∧ o.data = .dict es ep ∧ es.toList = xs.map (entryOfKey (nestedKind g.P g.w)) ∧ (xs.map (·.1)).Nodup ∧ ∀ x ∈ xs, x.1.depth ≤ 8

def kD : Key → D
  | .inl i => .int i
  | .inr x => .str x
mutual
def nkOf : D → Option NestedKey
  | .non => some .none
  | .bl b => none
  | .int i => some (.num i)
  | .str x => some (.text x)
  | .tup ds => (nksOf ds).map .tup
  | _ => none
def nksOf : List D → Option (List NestedKey)
  | [] => some []
  | d :: ds => (nkOf d).bind fun k => (nksOf ds).map (k :: ·)
end

mutual
inductive Rep (g : Gc) (F : Hp) : V → D → Prop
  | non : Rep g F .non .non
  | bl (b : Bool) : Rep g F (.bl b) (.bl b)
  | int (i : Int) : Rep g F (.int i) (.int i)
  | str (x : Str) : x.length ≤ sizeLine → Rep g F (.str x) (.str x)
  | tup {a : Addr} {vs : List V} {ds : List D} : SqT g.K F a vs → vs.length ≤ sizeLine → RepL g F vs ds → Rep g F (.ref a) (.tup ds)
  | lst {a : Addr} {vs : List V} {ds : List D} : F a = some (.lst vs) → vs.length ≤ sizeLine → RepL g F vs ds → Rep g F (.ref a) (.lst ds)
  | kst {a : Addr} {vs : List V} {ds : List D} : SqL g.K F a vs → vs.length ≤ sizeLine → RepL g F vs ds → Rep g F (.ref a) (.kst ds)
  | cell {c : Addr} : g.cl = some c → Rep g F (.ref c) .cell
  | fn {a : Addr} {i : Nat} : g.fn i = some a → Rep g F (.ref a) (.fn i)
  | dk {a : Addr} {kvs : List (Key × V)} {ds : List (D × D)} : Rd F a (.dK kvs) → kvs.length ≤ sizeLine → RepK g F kvs ds → Rep g F (.ref a) (.dic ds)
  | dn {a : Addr} {xs : List (NestedKey × Addr × Value)} {ds : List (D × D)} : Rd F a (dN g a xs) → xs.length ≤ sizeLine → RepN g F xs ds → Rep g F (.ref a) (.dic ds)
inductive RepL (g : Gc) (F : Hp) : List V → List D → Prop
  | nil : RepL g F [] []
  | cons {v : V} {d : D} {vs : List V} {ds : List D} : Rep g F v d → RepL g F vs ds → RepL g F (v :: vs) (d :: ds)
inductive RepK (g : Gc) (F : Hp) : List (Key × V) → List (D × D) → Prop
  | nil : RepK g F [] []
  | cons {k : Key} {v : V} {d : D} {vs : List (Key × V)} {ds : List (D × D)} : Rep g F v d → RepK g F vs ds → RepK g F ((k, v) :: vs) ((kD k, d) :: ds)
inductive RepN (g : Gc) (F : Hp) : List (NestedKey × Addr × Value) → List (D × D) → Prop
  | nil : RepN g F [] []
  | cons {k : NestedKey} {b : Addr} {u : Value} {v : V} {kd d : D} {vs : List (NestedKey × Addr × Value)} {ds : List (D × D)} : nkOf kd = some k → Rep g F (.ref b) kd → RelV v u → Rep g F v d → RepN g F vs ds → RepN g F ((k, b, u) :: vs) ((kd, d) :: ds)
end

theorem SqT.rdmono {K : PySem.W.Frag} {F F' : Hp} (h : ∀ a u, Rd F a u → Rd F' a u) {a : Addr} {xs : List V} (q : SqT K F a xs) : SqT K F' a xs := by
  rcases q with q | q
  · exact .inl (h _ _ q)
  · exact .inr q
theorem SqL.rdmono {K : PySem.W.Frag} {F F' : Hp} (h : ∀ a u, Rd F a u → Rd F' a u) {a : Addr} {xs : List V} (q : SqL K F a xs) : SqL K F' a xs := by
  rcases q with q | q
  · exact .inl (h _ _ q)
  · exact .inr q
/-- all that is read in F is read in F' -/
structure Mo (F F' : Hp) : Prop where
  rd : ∀ a u, Rd F a u → Rd F' a u
  ls : ∀ a vs, F a = some (.lst vs) → F' a = some (.lst vs)
section
variable {g : Gc} {F F' H H' : Hp}
mutual
theorem Rep.rd (h : Mo F F') : ∀ {v : V} {d : D}, Rep g F v d → Rep g F' v d
  | _, _, .non => .non
  | _, _, .bl b => .bl b
  | _, _, .int i => .int i
  | _, _, .str x z => .str x z
  | _, _, .tup q z r => .tup (SqT.rdmono h.rd q) z (RepL.rd h r)
  | _, _, .lst q z r => .lst (h.ls _ _ q) z (RepL.rd h r)
  | _, _, .kst q z r => .kst (SqL.rdmono h.rd q) z (RepL.rd h r)
  | _, _, .cell e => .cell e
  | _, _, .fn e => .fn e
  | _, _, .dk q z r => .dk (h.rd _ _ q) z (RepK.rd h r)
  | _, _, .dn q z r => .dn (h.rd _ _ q) z (RepN.rd h r)
theorem RepL.rd (h : Mo F F') : ∀ {v : List V} {d : List D}, RepL g F v d → RepL g F' v d
  | _, _, .nil => .nil
  | _, _, .cons q r => .cons (Rep.rd h q) (RepL.rd h r)
theorem RepK.rd (h : Mo F F') : ∀ {v : List (Key × V)} {d : List (D × D)}, RepK g F v d → RepK g F' v d
  | _, _, .nil => .nil
  | _, _, .cons q r => .cons (Rep.rd h q) (RepK.rd h r)
theorem RepN.rd (h : Mo F F') : ∀ {v : List (NestedKey × Addr × Value)} {d : List (D × D)}, RepN g F v d → RepN g F' v d
  | _, _, .nil => .nil
  | _, _, .cons e q u v r => .cons e (Rep.rd h q) u (Rep.rd h v) (RepN.rd h r)
end
theorem rd_same (s : Same F F') : Mo F F' := ⟨fun a u q => by
  rcases q with q | ⟨o, q⟩
  · exact .inl (s _ _ q)
  · exact .inr ⟨o, s _ _ q⟩, fun a vs q => s _ _ q⟩
theorem Rep.same (s : Same F F') {v : V} {d : D} (r : Rep g F v d) : Rep g F' v d := r.rd (rd_same s)
theorem RepL.same (s : Same F F') {v : List V} {d : List D} (r : RepL g F v d) : RepL g F' v d := r.rd (rd_same s)
theorem RepK.same (s : Same F F') {v : List (Key × V)} {d : List (D × D)} (r : RepK g F v d) : RepK g F' v d := r.rd (rd_same s)
theorem RepN.same (s : Same F F') {v : List (NestedKey × Addr × Value)} {d : List (D × D)} (r : RepN g F v d) : RepN g F' v d := r.rd (rd_same s)
theorem RepL.length : ∀ {v : List V} {d : List D}, RepL g F v d → v.length = d.length
  | _, _, .nil => rfl
  | _, _, .cons _ r => congrArg (· + 1) (RepL.length r)
theorem RepL.get : ∀ {v : List V} {d : List D} {i : Nat} {e : D}, RepL g F v d → d[i]? = some e → ∃ x, v[i]? = some x ∧ Rep g F x e
  | _, _, _, _, .nil, h => by simp at h
  | _, _, 0, _, .cons q r, h => by simp at h; subst h; exact ⟨_, rfl, q⟩
  | _, _, i + 1, e, .cons q r, h => by
    obtain ⟨x, h1, h2⟩ := RepL.get (i := i) (e := e) r (by simpa using h)
    exact ⟨x, by simpa using h1, h2⟩
theorem RepL.append : ∀ {v w : List V} {d e : List D}, RepL g F v d → RepL g F w e → RepL g F (v ++ w) (d ++ e)
  | _, _, _, _, .nil, h => h
  | _, _, _, _, .cons q r, h => .cons q (RepL.append r h)
theorem RepL.take : ∀ {v : List V} {d : List D} (n : Nat), RepL g F v d → RepL g F (v.take n) (d.take n)
  | _, _, 0, _ => .nil
  | _, _, _ + 1, .nil => .nil
  | _, _, n + 1, .cons q r => .cons q (RepL.take n r)
theorem RepL.drop : ∀ {v : List V} {d : List D} (n : Nat), RepL g F v d → RepL g F (v.drop n) (d.drop n)
  | _, _, 0, h => h
  | _, _, _ + 1, .nil => .nil
  | _, _, n + 1, .cons _ r => RepL.drop n r
theorem RepL.set : ∀ {v : List V} {d : List D} {x : V} {e : D} (i : Nat), RepL g F v d → Rep g F x e → RepL g F (v.set i x) (d.set i e)
  | _, _, _, _, _, .nil, _ => .nil
  | _, _, _, _, 0, .cons _ r, h => .cons h r
  | _, _, _, _, i + 1, .cons q r, h => .cons q (RepL.set i r h)
theorem RepL.reverse : ∀ {v : List V} {d : List D}, RepL g F v d → RepL g F v.reverse d.reverse
  | _, _, .nil => .nil
  | _, _, .cons q r => by rw [List.reverse_cons, List.reverse_cons]; exact RepL.append (RepL.reverse r) (.cons q .nil)
theorem RepL.ints : ∀ {ns : List Int} {v : List V}, RepL g F v (ns.map D.int) → v = ns.map V.int
  | [], _, .nil => rfl
  | n :: ns, _, .cons q r => by
    cases q
    rw [RepL.ints r]; rfl
theorem RepL.of_ints : ∀ (ns : List Int), RepL g F (ns.map V.int) (ns.map D.int)
  | [] => .nil
  | n :: ns => .cons (.int n) (RepL.of_ints ns)

/-! ### what one owns -/
inductive Own (g : Gc) (F H : Hp) (p : Addr) : D → Prop
  | lst {vs : List V} {ds : List D} : H p = some (.lst vs) → vs.length ≤ sizeLine → RepL g F vs ds → Own g F H p (.lst ds)
  | dk {kvs : List (Key × V)} {ds : List (D × D)} : H p = some (.dK kvs) → kvs.length ≤ sizeLine → RepK g F kvs ds → Own g F H p (.dic ds)
  | dn {xs : List (NestedKey × Addr × Value)} {ds : List (D × D)} : H p = some (dN g p xs) → xs.length ≤ sizeLine → RepN g F xs ds → Own g F H p (.dic ds)
theorem Own.obj {p : Addr} {d : D} (o : Own g F H p d) : ∃ u, H p = some u := by
  cases o with
  | lst h _ _ => exact ⟨_, h⟩
  | dk h _ _ => exact ⟨_, h⟩
  | dn h _ _ => exact ⟨_, h⟩
theorem Own.move {p : Addr} {d : D} (o : Own g F H p d) (hp : H' p = H p) (s : Same F F') : Own g F' H' p d := by
  cases o with
  | lst h z r => exact .lst (hp.trans h) z (r.same s)
  | dk h z r => exact .dk (hp.trans h) z (r.same s)
  | dn h z r => exact .dn (hp.trans h) z (r.same s)
/-- shared from now on -/
theorem Own.rep {p : Addr} {d : D} (o : Own g F H p d) (s : Same F F') (hp : F' p = H p) : Rep g F' (.ref p) d := by
  cases o with
  | lst h z r => exact .lst (hp.trans h) z (r.same s)
  | dk h z r => exact .dk (.inl (hp.trans h)) z (r.same s)
  | dn h z r => exact .dn (.inl (hp.trans h)) z (r.same s)

def CellOk (g : Gc) (F H : Hp) (z : Int) : Prop := ∀ c, g.cl = some c → H c = some (.lst [.int z]) ∧ F c = none

/-- from (F, H) to (F', H'): nothing that stood has changed but the draw state; nothing that stood unfrozen is frozen -/
structure Step (g : Gc) (F H F' H' : Hp) (z' : Int) : Prop where
  sub : Same F' H'
  grow : Same F F'
  fr : ∀ a, H a ≠ none → F a = none → F' a = none
  keep : ∀ a o, g.cl ≠ some a → H a = some o → H' a = some o
  cell : CellOk g F' H' z'
theorem Step.there {z' : Int} (s : Step g F H F' H' z') {a : Addr} (h : H a ≠ none) : H' a ≠ none := by
  by_cases e : g.cl = some a
  · rw [(s.cell a e).1]; simp
  · cases q : H a with
    | none => exact absurd q h
    | some o => rw [s.keep a o e q]; simp
theorem Step.trans {F2 H2 : Hp} {z' z2 : Int} (a : Step g F H F' H' z') (b : Step g F' H' F2 H2 z2) : Step g F H F2 H2 z2 :=
  ⟨b.sub, a.grow.trans b.grow, fun x h n => b.fr x (a.there h) (a.fr x h n), fun x o e h => b.keep x o e (a.keep x o e h), b.cell⟩
theorem Step.refl {z : Int} (s : Same F H) (c : CellOk g F H z) : Step g F H F H z := ⟨s, Same.refl _, fun _ _ n => n, fun _ _ _ h => h, c⟩
theorem cell_ne {z : Int} (c : CellOk g F H z) {p : Addr} (h : H p = none) : g.cl ≠ some p := fun e => by
  rw [(c p e).1] at h; cases h
theorem sub_none (s : Same F H) {p : Addr} (h : H p = none) : F p = none := s.free h
theorem same_updL {o : HO} {p : Addr} (s : Same F H) (h : H p = none) : Same F (upd H p o) := fun b u q => by
  rw [upd_ne (ne_of_none (s _ _ q) h)]; exact s _ _ q
theorem same_upd2 {o : HO} {p : Addr} (s : Same F H) (h : F p = none) : Same (upd F p o) (upd H p o) := fun b u q => by
  by_cases e : b = p
  · subst e; rw [upd_same] at q ⊢; exact q
  · rw [upd_ne e] at q ⊢; exact s _ _ q
theorem same_updN {o : HO} {p : Addr} (h : F p = none) : Same F (upd F p o) := fun b u q => by
  rw [upd_ne (ne_of_none q h)]; exact q
/-- a new object, owned -/
theorem Step.new {z : Int} {p : Addr} {o : HO} (s : Same F H) (c : CellOk g F H z) (h : H p = none) : Step g F H F (upd H p o) z :=
  ⟨same_updL s h, Same.refl _, fun _ _ n => n, fun a u _ q => by rw [upd_ne (ne_of_none q h)]; exact q, fun x e => by
    have ⟨c1, c2⟩ := c x e
    exact ⟨by rw [upd_ne (ne_of_none c1 h)]; exact c1, c2⟩⟩
/-- a new object, frozen -/
theorem Step.newF {z : Int} {p : Addr} {o : HO} (s : Same F H) (c : CellOk g F H z) (h : H p = none) : Step g F H (upd F p o) (upd H p o) z :=
  ⟨same_upd2 s (sub_none s h), same_updN (sub_none s h), fun a q n => by
    by_cases e : a = p
    · subst e; exact absurd h q
    · rw [upd_ne e]; exact n, fun a u _ q => by rw [upd_ne (ne_of_none q h)]; exact q, fun x e => by
    have ⟨c1, c2⟩ := c x e
    exact ⟨by rw [upd_ne (ne_of_none c1 h)]; exact c1, by rw [upd_ne (ne_of_none c1 h)]; exact c2⟩⟩

/-- the value of an expression: fresh and owned by none, or shared -/
def Val (g : Gc) (H F' H' : Hp) (v : V) (d : D) : Bool → Prop
  | true => ∃ p, v = .ref p ∧ H p = none ∧ F' p = none ∧ g.cl ≠ some p ∧ Own g F' H' p d
  | false => Rep g F' v d
/-- an operand, looked at -/
def Pk (g : Gc) (F H : Hp) (v : V) (d : D) : Prop := Rep g F v d ∨ ∃ p, v = .ref p ∧ F p = none ∧ g.cl ≠ some p ∧ Own g F H p d
theorem Pk.step {z' : Int} {v : V} {d : D} (k : Pk g F H v d) (s : Step g F H F' H' z') : Pk g F' H' v d := by
  rcases k with k | ⟨p, e, n, c, o⟩
  · exact .inl (k.same s.grow)
  · obtain ⟨u, hu⟩ := o.obj
    exact .inr ⟨p, e, s.fr p (by rw [hu]; simp) n, c, o.move ((s.keep p u c hu).trans hu.symm) s.grow⟩
/-- a value is frozen -/
theorem Step.freeze {z' : Int} {v : V} {d : D} {fr : Bool} (s : Step g F H F' H' z') (k : Val g H F' H' v d fr) : ∃ F2, Step g F H F2 H' z' ∧ Rep g F2 v d ∧ Same F' F2 := by
  cases fr with
  | false => exact ⟨F', s, k, Same.refl _⟩
  | true =>
    obtain ⟨p, e, hn, fn, c, o⟩ := k
    obtain ⟨u, hu⟩ := o.obj
    have sf : Same F' (upd F' p u) := same_updN fn
    refine ⟨upd F' p u, ⟨fun b w q => ?_, s.grow.trans sf, fun a q n => ?_, s.keep, fun x q => ?_⟩, ?_, sf⟩
    · by_cases e : b = p
      · subst e; rw [upd_same] at q; rw [hu]; exact q
      · rw [upd_ne e] at q; exact s.sub _ _ q
    · by_cases e : a = p
      · subst e; exact absurd hn q
      · rw [upd_ne e]; exact s.fr a q n
    · have ⟨c1, c2⟩ := s.cell x q
      refine ⟨c1, ?_⟩
      rw [upd_ne (fun e => c (by rw [← e]; exact q))]; exact c2
    · rw [e]; exact o.rep sf (by rw [upd_same]; exact hu.symm)
theorem Val.pk {v : V} {d : D} {fr : Bool} (k : Val g H F' H' v d fr) : Pk g F' H' v d := by
  cases fr with
  | false => exact .inl k
  | true => obtain ⟨p, e, _, n, c, o⟩ := k; exact .inr ⟨p, e, n, c, o⟩

/-! ### slots -/
def SlotOk (g : Gc) (F H : Hp) (o : Option (Option V)) : Slot → Prop
  | .un => True
  | .sh d => ∃ v, o = some (some v) ∧ Rep g F v d
  | .ow d => ∃ p, o = some (some (.ref p)) ∧ F p = none ∧ g.cl ≠ some p ∧ Own g F H p d
structure SR (g : Gc) (F H : Hp) (σ : L2.St) (env : Env') (z : Int) : Prop where
  sub : Same F H
  cell : CellOk g F H z
  len : σ.length = env.length
  at_ : ∀ (i : Nat) (s : Slot), env[i]? = some s → SlotOk g F H (σ[i]?) s
  inj : ∀ (i j : Nat) (p : Addr) (d d' : D), env[i]? = some (.ow d) → σ[i]? = some (some (.ref p)) → env[j]? = some (.ow d') → σ[j]? = some (some (.ref p)) → i = j
theorem SlotOk.step {z' : Int} {o : Option (Option V)} {s : Slot} (k : SlotOk g F H o s) (st : Step g F H F' H' z') : SlotOk g F' H' o s := by
  cases s with
  | un => trivial
  | sh d => obtain ⟨v, e, r⟩ := k; exact ⟨v, e, r.same st.grow⟩
  | ow d =>
    obtain ⟨p, e, n, c, o⟩ := k
    obtain ⟨u, hu⟩ := o.obj
    exact ⟨p, e, st.fr p (by rw [hu]; simp) n, c, o.move ((st.keep p u c hu).trans hu.symm) st.grow⟩
theorem SR.step {σ : L2.St} {env : Env'} {z z' : Int} (r : SR g F H σ env z) (st : Step g F H F' H' z') : SR g F' H' σ env z' :=
  ⟨st.sub, st.cell, r.len, fun i s e => (r.at_ i s e).step st, r.inj⟩
theorem SR.refl {σ : L2.St} {env : Env'} {z : Int} (r : SR g F H σ env z) : Step g F H F H z := Step.refl r.sub r.cell
end

/-! ### readings by the evaluator -/
/-- an expression -/
def tE (g : Gc) (m : EM) : TE := fun σ H Q => ∃ F env z d fr z', SR g F H σ env z ∧ m env z = some (d, fr, z') ∧ ∀ v F' H', Step g F H F' H' z' → Val g H F' H' v d fr → Q v H'
/-- an operand -/
def tP (g : Gc) (m : OM) : TE := fun σ H Q => ∃ F env z d z', SR g F H σ env z ∧ m env z = some (d, z') ∧ ∀ v F' H', Step g F H F' H' z' → Pk g F' H' v d → Q v H'
/-- a test -/
def tT (g : Gc) (m : TM) : TT := fun σ H Q => ∃ F env z b z', SR g F H σ env z ∧ m env z = some (b, z') ∧ ∀ F' H', Step g F H F' H' z' → Q b H'
/-- arguments, all shared -/
def tAr (g : Gc) (m : AM) : TA := fun σ H Q => ∃ F env z ds z', SR g F H σ env z ∧ m env z = some (ds, z') ∧ ∀ vs F' H', Step g F H F' H' z' → RepL g F' vs ds → Q vs H'

structure Of (X : Cx) (g : Gc) : Prop where
  P : X.prog = g.P
  w : X.w = g.w
  K : X.K = g.K
  mg : X.mg = g.mg
  base : X.base = g.base
  calm : X.calm = true
def EE (X : Cx) (g : Gc) (e : Expr) (m : EM) : Prop := PE X e (tE g m)
def OE (X : Cx) (g : Gc) (e : Expr) (m : OM) : Prop := PE X e (tP g m)
def CE' (X : Cx) (g : Gc) (e : Expr) (m : TM) : Prop := PT X e (tT g m)
def AE (X : Cx) (g : Gc) (es : List Expr) (m : AM) : Prop := PA X es (tAr g m)

theorem PE.imp {X : Cx} {e : Expr} {t t' : TE} (h : PE X e t) (i : ∀ σ H Q, t' σ H Q → t σ H Q) : PE X e t' := ⟨fun pins s σ H Q I q => h.run pins s σ H Q I (i σ H Q q)⟩
theorem PT.imp {X : Cx} {e : Expr} {t t' : TT} (h : PT X e t) (i : ∀ σ H Q, t' σ H Q → t σ H Q) : PT X e t' := ⟨fun pins s σ H Q I q => h.run pins s σ H Q I (i σ H Q q)⟩
theorem PW.imp {X : Cx} {e : Expr} {t t' : TT} (h : PW X e t) (i : ∀ σ H Q, t' σ H Q → t σ H Q) : PW X e t' := ⟨fun wh pins s σ H Q I q => h.run wh pins s σ H Q I (i σ H Q q)⟩
theorem PA.imp {X : Cx} {e : List Expr} {t t' : TA} (h : PA X e t) (i : ∀ σ H Q, t' σ H Q → t σ H Q) : PA X e t' := ⟨fun pos pins s σ H Q I q => h.run pos pins s σ H Q I (i σ H Q q)⟩
theorem PS.imp {X : Cx} {e : Stmt} {t t' : TS} (h : PS X e t) (i : ∀ D σ H, t' D σ H → t D σ H) : PS X e t' := ⟨fun pins s σ H D I q => h.run pins s σ H D I (i D σ H q)⟩
theorem PSs.imp {X : Cx} {e : List Stmt} {t t' : TS} (h : PSs X e t) (i : ∀ D σ H, t' D σ H → t D σ H) : PSs X e t' := ⟨fun pins s σ H D I q => h.run pins s σ H D I (i D σ H q)⟩
theorem PG.imp {X : Cx} {e : Expr} {t t' : TG} (h : PG X e t) (i : ∀ v σ H Q, t' v σ H Q → t v σ H Q) : PG X e t' := ⟨fun pins s σ H v u Q I r q => h.run pins s σ H v u Q I r (i v σ H Q q)⟩
theorem PI.imp {X : Cx} {tg e : Expr} {t t' : TI} (h : PI X tg e t) (i : ∀ σ H R, t' σ H R → t σ H R) : PI X tg e t' := ⟨fun pins s σ H R I q => h.run pins s σ H R I (i σ H R q)⟩

section
variable {g : Gc} {F H : Hp} {σ : L2.St} {env : Env'} {z : Int}
theorem tE.at {m : EM} {d : D} {fr : Bool} {z' : Int} {Q : VK} (r : SR g F H σ env z) (e : m env z = some (d, fr, z')) (h : ∀ v F' H', Step g F H F' H' z' → Val g H F' H' v d fr → Q v H') : tE g m σ H Q := ⟨F, env, z, d, fr, z', r, e, h⟩
theorem tE.sh {m : EM} {d : D} {fr : Bool} {z' : Int} {Q : VK} (r : SR g F H σ env z) (e : m env z = some (d, fr, z')) (h : ∀ v F' H', Step g F H F' H' z' → Rep g F' v d → Q v H') : tE g m σ H Q :=
  ⟨F, env, z, d, fr, z', r, e, fun v F' H' s k => by
    obtain ⟨F2, s2, k2, _⟩ := s.freeze k
    exact h v F2 H' s2 k2⟩
theorem tP.at {m : OM} {d : D} {z' : Int} {Q : VK} (r : SR g F H σ env z) (e : m env z = some (d, z')) (h : ∀ v F' H', Step g F H F' H' z' → Pk g F' H' v d → Q v H') : tP g m σ H Q := ⟨F, env, z, d, z', r, e, h⟩
theorem tT.at {m : TM} {b : Bool} {z' : Int} {Q : Bool → Hp → Prop} (r : SR g F H σ env z) (e : m env z = some (b, z')) (h : ∀ F' H', Step g F H F' H' z' → Q b H') : tT g m σ H Q := ⟨F, env, z, b, z', r, e, h⟩
theorem tAr.at {m : AM} {ds : List D} {z' : Int} {Q : List V → Hp → Prop} (r : SR g F H σ env z) (e : m env z = some (ds, z')) (h : ∀ vs F' H', Step g F H F' H' z' → RepL g F' vs ds → Q vs H') : tAr g m σ H Q := ⟨F, env, z, ds, z', r, e, h⟩
end
end Tw

namespace Tw
open PySem PySem.Spec PyProof.Rows L2

/-! ### the evaluator: expressions -/
abbrev lim : Nat := 16777216
theorem lim_eq : sizeLine = lim := sizeLine_eq
def eC (d : D) : EM := fun _ z => some (d, false, z)
def eV (i : Nat) : EM := fun env z => match env[i]? with
  | some (.sh d) => some (d, false, z)
  | _ => none
def oV (i : Nat) : OM := fun env z => match env[i]? with
  | some (.sh d) => some (d, z)
  | some (.ow d) => some (d, z)
  | _ => none
def oE (m : EM) : OM := fun env z => (m env z).map fun r => (r.1, r.2.2)
def mBin (f : D → D → Option (D × Bool)) (a b : OM) : EM := fun env z => (a env z).bind fun p => (b env p.2).bind fun q => (f p.1 q.1).map fun r => (r.1, r.2, q.2)
def mUn (f : D → Option (D × Bool)) (a : OM) : EM := fun env z => (a env z).bind fun p => (f p.1).map fun r => (r.1, r.2, p.2)
def cCmp (f : D → D → Option Bool) (a b : OM) : TM := fun env z => (a env z).bind fun p => (b env p.2).bind fun q => (f p.1 q.1).map fun r => (r, q.2)
def eB (t : TM) : EM := fun env z => (t env z).map fun r => (.bl r.1, false, r.2)
def cE (m : EM) : TM := fun env z => (m env z).bind fun r => match r.1 with
  | .bl b => some (b, r.2.2)
  | _ => none
def cAnd (a b : TM) : TM := fun env z => (a env z).bind fun p => if p.1 = true then b env p.2 else some (false, p.2)
def cOr (a b : TM) : TM := fun env z => (a env z).bind fun p => if p.1 = true then some (true, p.2) else b env p.2
def cNot (a : TM) : TM := fun env z => (a env z).map fun p => (!p.1, p.2)
def eIf (c : TM) (a b : EM) : EM := fun env z => (c env z).bind fun p => if p.1 = true then a env p.2 else b env p.2
def aNil : AM := fun _ z => some ([], z)
def aCons (a : EM) (r : AM) : AM := fun env z => (a env z).bind fun p => (r env p.2.2).map fun q => (p.1 :: q.1, q.2)
def eTup (a : AM) : EM := fun env z => (a env z).bind fun p => if p.1.length ≤ lim then some (.tup p.1, false, p.2) else none
def eLst (a : AM) : EM := fun env z => (a env z).bind fun p => if p.1.length ≤ lim then some (.lst p.1, true, p.2) else none
def eCall (G : List D → Int → ER) (a : AM) : EM := fun env z => (a env z).bind fun p => G p.1 p.2

def mulOk (i j : Int) : Bool := decide (i.natAbs < 18446744073709551616) || decide (j.natAbs < 18446744073709551616) || decide (i.natAbs.log2 + j.natAbs.log2 < 1000000)
def dAdd : D → D → Option (D × Bool)
  | .int i, .int j => some (.int (i + j), false)
  | .str x, .str y => if x.length + y.length ≤ lim then some (.str (x ++ y), false) else none
  | .tup x, .tup y => if x.length + y.length ≤ lim then some (.tup (x ++ y), false) else none
  | .lst x, .lst y => if x.length + y.length ≤ lim then some (.lst (x ++ y), true) else none
  | _, _ => none
def dSub : D → D → Option (D × Bool)
  | .int i, .int j => some (.int (i - j), false)
  | _, _ => none
def dMul : D → D → Option (D × Bool)
  | .int i, .int j => if mulOk i j then some (.int (i * j), false) else none
  | .lst x, .int k => if -1000000 ≤ k ∧ k ≤ 1000000 ∧ x.length * k.toNat ≤ lim then some (.lst (List.replicate k.toNat x).flatten, true) else none
  | .str x, .int k => if k ≤ 1000000 ∧ -1000000 ≤ k ∧ x.length * k.toNat ≤ 1000000 then some (.str ⟨(List.replicate k.toNat x.cps.toList).flatten.toArray⟩, false) else none
  | _, _ => none
def dDiv : D → D → Option (D × Bool)
  | .int i, .int j => if j ≠ 0 ∧ j.natAbs.log2 < 9000 then some (.int (i.fdiv j), false) else none
  | _, _ => none
def dMod : D → D → Option (D × Bool)
  | .int i, .int j => if j ≠ 0 then some (.int (i.fmod j), false) else none
  | _, _ => none
def dPow : D → D → Option (D × Bool)
  | .int i, .int j => if 0 ≤ j ∧ j ≤ 1000000 ∧ i.natAbs < 18446744073709551616 then some (.int (i ^ j.toNat), false) else none
  | _, _ => none
def dNeg : D → Option (D × Bool)
  | .int i => some (.int (-i), false)
  | _ => none
def dIx : D → D → Option (D × Bool)
  | .lst xs, .int i => (atI xs i).map (·, false)
  | .kst xs, .int i => (atI xs i).map (·, false)
  | .tup xs, .int i => (atI xs i).map (·, false)
  | .str x, .int i => (atI x.cps.toList i).map fun c => (.str ⟨#[c]⟩, false)
  | _, _ => none

section
variable {g : Gc} {F F' H H' : Hp} {σ : L2.St} {env : Env'} {z : Int} {X : Cx}

/-- what an operation on looked-at values is to give -/
def BinOk (g : Gc) (f : D → D → Option (D × Bool)) (r : R2) : Prop :=
  ∀ {F H : Hp} {z : Int} {x y : V} {d e d' : D} {fr : Bool} (Q : VK), Same F H → CellOk g F H z → Pk g F H x d → Pk g F H y e → f d e = some (d', fr) →
    (∀ v F' H', Step g F H F' H' z → Val g H F' H' v d' fr → Q v H') → r x y H Q

theorem Step.freshVal {z : Int} {p : Addr} {vs : List V} {ds : List D} (s : Same F H) (c : CellOk g F H z) (h : H p = none) (hz : vs.length ≤ sizeLine) (r : RepL g F vs ds) : Val g H F (upd H p (.lst vs)) (.ref p) (.lst ds) true :=
  ⟨p, rfl, h, sub_none s h, cell_ne c h, .lst upd_same hz r⟩
theorem Step.tupVal {p : Addr} {vs : List V} {ds : List D} (s : Same F H) (h : H p = none) (hz : vs.length ≤ sizeLine) (r : RepL g F vs ds) : Rep g (upd F p (.tup vs)) (.ref p) (.tup ds) :=
  .tup (.inl (.inl upd_same)) hz (r.same (same_updN (sub_none s h)))

theorem Pk.int {x : V} {i : Int} (k : Pk g F H x (.int i)) : x = .int i := by
  rcases k with k | ⟨p, e, _, _, o⟩
  · cases k; rfl
  · cases o
theorem Pk.bl {x : V} {i : Bool} (k : Pk g F H x (.bl i)) : x = .bl i := by
  rcases k with k | ⟨p, e, _, _, o⟩
  · cases k; rfl
  · cases o
theorem Pk.non {x : V} (k : Pk g F H x .non) : x = .non := by
  rcases k with k | ⟨p, e, _, _, o⟩
  · cases k; rfl
  · cases o
theorem Pk.str {x : V} {i : Str} (k : Pk g F H x (.str i)) : x = .str i ∧ i.length ≤ sizeLine := by
  rcases k with k | ⟨p, e, _, _, o⟩
  · cases k with | str _ h => exact ⟨rfl, h⟩
  · cases o
theorem Pk.tup {x : V} {ds : List D} (k : Pk g F H x (.tup ds)) : ∃ a vs, x = .ref a ∧ SqT g.K F a vs ∧ vs.length ≤ sizeLine ∧ RepL g F vs ds := by
  rcases k with k | ⟨p, e, _, _, o⟩
  · cases k with | tup h1 h2 h3 => exact ⟨_, _, rfl, h1, h2, h3⟩
  · cases o
theorem Pk.kst {x : V} {ds : List D} (k : Pk g F H x (.kst ds)) : ∃ a vs, x = .ref a ∧ SqL g.K F a vs ∧ vs.length ≤ sizeLine ∧ RepL g F vs ds := by
  rcases k with k | ⟨p, e, _, _, o⟩
  · cases k with | kst h1 h2 h3 => exact ⟨_, _, rfl, h1, h2, h3⟩
  · cases o
theorem Pk.lst {x : V} {ds : List D} (k : Pk g F H x (.lst ds)) (s : Same F H) : ∃ a vs, x = .ref a ∧ H a = some (.lst vs) ∧ vs.length ≤ sizeLine ∧ RepL g F vs ds := by
  rcases k with k | ⟨p, e, _, _, o⟩
  · cases k with | lst h1 h2 h3 => exact ⟨_, _, rfl, s _ _ h1, h2, h3⟩
  · cases o with | lst h1 h2 h3 => exact ⟨_, _, e, h1, h2, h3⟩
theorem Pk.of {x : V} {d : D} (k : Rep g F x d) : Pk g F H x d := .inl k
theorem SqT.same {K : PySem.W.Frag} {a : Addr} {xs : List V} (s : Same F F') (q : SqT K F a xs) : SqT K F' a xs := SqT.rdmono (rd_same s).rd q
theorem SqL.same {K : PySem.W.Frag} {a : Addr} {xs : List V} (s : Same F F') (q : SqL K F a xs) : SqL K F' a xs := SqL.rdmono (rd_same s).rd q

/-! ### constants, names -/
theorem ee_int {i : Int} {j pos} : EE X g (.Constant (.int i) j pos) (eC (.int i)) := PE.imp pe_int fun σ H Q ⟨F, env, z, d, fr, z', r, e, h⟩ => by
  simp only [eC, Option.some.injEq, Prod.mk.injEq] at e
  obtain ⟨rfl, rfl, rfl⟩ := e
  exact h _ F H r.refl (.int i)
theorem ee_bl {i : Bool} {j pos} : EE X g (.Constant (.bool i) j pos) (eC (.bl i)) := PE.imp pe_bl fun σ H Q ⟨F, env, z, d, fr, z', r, e, h⟩ => by
  simp only [eC, Option.some.injEq, Prod.mk.injEq] at e
  obtain ⟨rfl, rfl, rfl⟩ := e
  exact h _ F H r.refl (.bl i)
theorem ee_non {j pos} : EE X g (.Constant .none j pos) (eC .non) := PE.imp pe_non fun σ H Q ⟨F, env, z, d, fr, z', r, e, h⟩ => by
  simp only [eC, Option.some.injEq, Prod.mk.injEq] at e
  obtain ⟨rfl, rfl, rfl⟩ := e
  exact h _ F H r.refl .non
theorem ee_str {i : Str} {j pos} (hl : decide (i.length ≤ lim) = true := by decide) : EE X g (.Constant (.str i) j pos) (eC (.str i)) := PE.imp pe_str fun σ H Q ⟨F, env, z, d, fr, z', r, e, h⟩ => by
  simp only [eC, Option.some.injEq, Prod.mk.injEq] at e
  obtain ⟨rfl, rfl, rfl⟩ := e
  exact h _ F H r.refl (.str i (by rw [lim_eq]; exact of_decide_eq_true hl))
theorem ee_var (i : Nat) {x : Str} {pos : Pos} (hN : X.N[i]? = some x := by rfl) (hv : Vis X.env.scope x := by first | exact Or.inl rfl | exact Or.inr (Or.inl rfl) | exact Or.inr (Or.inr rfl)) (hd : (x == ("__debug__" : Str)) = false := by decide)
    (hcd : (x == ("__classdict__" : Str)) = false := by decide) : EE X g (.Name x pos) (eV i) := PE.imp (pe_var hN hv hd hcd) fun σ H Q ⟨F, env, z, d, fr, z', r, e, h⟩ => by
  unfold eV at e
  cases q : env[i]? with
  | none => rw [q] at e; cases e
  | some s =>
    cases s with
    | sh d0 =>
      rw [q] at e
      simp only [Option.some.injEq, Prod.mk.injEq] at e
      obtain ⟨rfl, rfl, rfl⟩ := e
      obtain ⟨v, e1, r1⟩ := r.at_ i _ q
      exact ⟨v, e1, h v F H r.refl r1⟩
    | un => rw [q] at e; cases e
    | ow d0 => rw [q] at e; cases e
theorem oe_var (i : Nat) {x : Str} {pos : Pos} (hN : X.N[i]? = some x := by rfl) (hv : Vis X.env.scope x := by first | exact Or.inl rfl | exact Or.inr (Or.inl rfl) | exact Or.inr (Or.inr rfl)) (hd : (x == ("__debug__" : Str)) = false := by decide)
    (hcd : (x == ("__classdict__" : Str)) = false := by decide) : OE X g (.Name x pos) (oV i) := PE.imp (pe_var hN hv hd hcd) fun σ H Q ⟨F, env, z, d, z', r, e, h⟩ => by
  unfold oV at e
  cases q : env[i]? with
  | none => rw [q] at e; cases e
  | some s =>
    cases s with
    | sh d0 =>
      rw [q] at e
      simp only [Option.some.injEq, Prod.mk.injEq] at e
      obtain ⟨rfl, rfl⟩ := e
      obtain ⟨v, e1, r1⟩ := r.at_ i _ q
      exact ⟨v, e1, h v F H r.refl (.inl r1)⟩
    | un => rw [q] at e; cases e
    | ow d0 =>
      rw [q] at e
      simp only [Option.some.injEq, Prod.mk.injEq] at e
      obtain ⟨rfl, rfl⟩ := e
      obtain ⟨p, e1, n, c, o⟩ := r.at_ i _ q
      exact ⟨.ref p, e1, h _ F H r.refl (.inr ⟨p, rfl, n, c, o⟩)⟩
/-- a constant of the module -/
theorem ee_glob {x : Str} {v : V} {u : Value} {pos : Pos} {d : D} (hX : Of X g) (hm : g.mg x = some u) (rv : RelV v u) (rd : ∀ F, Rep g F v d) (hg : Gl X x := by rfl) (hd : (x == ("__debug__" : Str)) = false := by decide) : EE X g (.Name x pos) (eC d) :=
  PE.imp (pe_glob hg (by rw [hX.mg]; exact hm) rv hd) fun σ H Q ⟨F, env, z, d', fr, z', r, e, h⟩ => by
    simp only [eC, Option.some.injEq, Prod.mk.injEq] at e
    obtain ⟨rfl, rfl, rfl⟩ := e
    exact h _ F H r.refl (rd F)
theorem oe_of {e : Expr} {m : EM} (h : EE X g e m) : OE X g e (oE m) := PE.imp h fun σ H Q ⟨F, env, z, d, z', r, e, h⟩ => by
  unfold oE at e
  cases q : m env z with
  | none => rw [q] at e; cases e
  | some t =>
    obtain ⟨d0, fr, z0⟩ := t
    rw [q] at e
    simp only [Option.map_some, Option.some.injEq, Prod.mk.injEq] at e
    obtain ⟨rfl, rfl⟩ := e
    exact ⟨F, env, z, d0, fr, z0, r, q, fun v F' H' s k => h v F' H' s k.pk⟩

/-! ### operators -/
theorem ee_bin {a b : Expr} {pos : Pos} {op : Operator} {r : R2} {f : D → D → Option (D × Bool)} {ma mb : OM} (ho : OpR X (binaryOp op) r) (hf : BinOk g f r) (ha : OE X g a ma) (hb : OE X g b mb) : EE X g (.BinOp a op b pos) (mBin f ma mb) :=
  PE.imp (pe_op ho ha hb) fun σ H Q ⟨F, env, z, d, fr, z', sr, e, h⟩ => by
    unfold mBin at e
    cases q1 : ma env z with
    | none => rw [q1] at e; cases e
    | some p =>
      rw [q1] at e
      simp only [Option.bind_some] at e
      cases q2 : mb env p.2 with
      | none => rw [q2] at e; cases e
      | some q =>
        rw [q2] at e
        simp only [Option.bind_some] at e
        cases q3 : f p.1 q.1 with
        | none => rw [q3] at e; cases e
        | some w =>
          rw [q3] at e
          simp only [Option.map_some, Option.some.injEq, Prod.mk.injEq] at e
          obtain ⟨rfl, rfl, rfl⟩ := e
          refine tP.at sr q1 fun x F1 H1 s1 k1 => ?_
          refine tP.at (sr.step s1) q2 fun y F2 H2 s2 k2 => ?_
          exact hf Q s2.sub s2.cell (k1.step s2) k2 q3 fun v F3 H3 s3 k3 => h v F3 H3 ((s1.trans s2).trans s3) (by
            cases hb : w.2 with
            | false => rw [hb] at k3; exact k3
            | true =>
              rw [hb] at k3
              obtain ⟨p', e1, n1, n2, n3, o⟩ := k3
              refine ⟨p', e1, ?_, n2, n3, o⟩
              cases hq : H p' with
              | none => rfl
              | some u => exact absurd n1 ((s1.trans s2).there (by rw [hq]; simp)))
/-- a value that is fresh for a later heap is fresh for an earlier one -/
theorem Val.back {H1 F2 H2 : Hp} {v : V} {d : D} {fr : Bool} {F1 : Hp} {z1 : Int} (s : Step g F H F1 H1 z1) (k : Val g H1 F2 H2 v d fr) : Val g H F2 H2 v d fr := by
  cases fr with
  | false => exact k
  | true =>
    obtain ⟨p', e1, n1, n2, n3, o⟩ := k
    refine ⟨p', e1, ?_, n2, n3, o⟩
    cases hq : H p' with
    | none => rfl
    | some u => exact absurd n1 (s.there (by rw [hq]; simp))

theorem bin_add (hX : Of X g) : ∃ r, OpR X (binaryOp .Add) r ∧ BinOk g dAdd r := by
  refine ⟨_, op_add.or (op_add_str.or (op_catA.or op_cat)), ?_⟩
  intro F H z x y d e d' fr Q s c kx ky hf h
  cases d with
  | int i =>
    cases e with
    | int j =>
      simp only [dAdd, Option.some.injEq, Prod.mk.injEq] at hf
      obtain ⟨rfl, rfl⟩ := hf
      exact .inl ⟨i, j, kx.int, ky.int, h _ F H (Step.refl s c) (.int _)⟩
    | _ => simp [dAdd] at hf
  | str i =>
    cases e with
    | str j =>
      simp only [dAdd] at hf
      split at hf
      · rename_i hl
        simp only [Option.some.injEq, Prod.mk.injEq] at hf
        obtain ⟨rfl, rfl⟩ := hf
        have hl' : i.length + j.length ≤ sizeLine := by rw [lim_eq]; exact hl
        exact .inr (.inl ⟨i, j, kx.str.1, ky.str.1, hl', h _ F H (Step.refl s c) (.str _ (by
          have e : (i ++ j).length = i.length + j.length := by
            show (i.cps ++ j.cps).size = _
            rw [Array.size_append]; rfl
          rw [e]; exact hl'))⟩)
      · cases hf
    | _ => simp [dAdd] at hf
  | tup i =>
    cases e with
    | tup j =>
      simp only [dAdd] at hf
      split at hf
      · rename_i hl
        simp only [Option.some.injEq, Prod.mk.injEq] at hf
        obtain ⟨rfl, rfl⟩ := hf
        obtain ⟨a, vs, ex, h1, h2, h3⟩ := kx.tup
        obtain ⟨b, ws, ey, g1, g2, g3⟩ := ky.tup
        have hl' : vs.length + ws.length ≤ sizeLine := by rw [lim_eq, h3.length, g3.length]; exact hl
        refine .inr (.inr (.inl ⟨a, b, vs, ws, ex, ey, ?_, ?_, hl', fun ez => ?_, fun _ ez => ?_, fun _ _ p hp => ?_⟩))
        · rw [hX.K]; exact SqT.same s h1
        · rw [hX.K]; exact SqT.same s g1
        · subst ez
          have e0 : i = [] := by have := h3.length; simpa using this.symm
          subst e0
          exact h _ F H (Step.refl s c) (.tup g1 g2 g3)
        · subst ez
          have e0 : j = [] := by have := g3.length; simpa using this.symm
          subst e0
          rw [List.append_nil] at h
          exact h _ F H (Step.refl s c) (.tup h1 h2 h3)
        · exact h _ _ _ (Step.newF s c hp) (Step.tupVal s hp (by rw [List.length_append]; exact hl') (h3.append g3))
      · cases hf
    | _ => simp [dAdd] at hf
  | lst i =>
    cases e with
    | lst j =>
      simp only [dAdd] at hf
      split at hf
      · rename_i hl
        simp only [Option.some.injEq, Prod.mk.injEq] at hf
        obtain ⟨rfl, rfl⟩ := hf
        obtain ⟨a, vs, ex, h1, h2, h3⟩ := kx.lst s
        obtain ⟨b, ws, ey, g1, g2, g3⟩ := ky.lst s
        have hl' : vs.length + ws.length ≤ sizeLine := by rw [lim_eq, h3.length, g3.length]; exact hl
        exact .inr (.inr (.inr ⟨a, b, vs, ws, ex, ey, h1, g1, hl', fun p hp => h _ _ _ (Step.new s c hp) (Step.freshVal s c hp (by rw [List.length_append]; exact hl') (h3.append g3))⟩))
      · cases hf
    | _ => simp [dAdd] at hf
  | _ => simp [dAdd] at hf
theorem op_fdivG : OpR X (binaryOp .FloorDiv) (rI (fun _ j => j ≠ 0 ∧ j.natAbs.log2 < 9000) fun i j => .int (i.fdiv j)) := opI fun _ _ _ _ _ _ _ hc q => floordiv_int hc.1 q (.inl (PyProof.noPylong_of_log2 hc.2))
theorem iop_fdivG : OpR X (inplaceOp .FloorDiv) (rI (fun _ j => j ≠ 0 ∧ j.natAbs.log2 < 9000) fun i j => .int (i.fdiv j)) := opI fun _ _ _ _ _ _ _ hc q => ifloordiv_int hc.1 q (.inl (PyProof.noPylong_of_log2 hc.2))
def CMulG (i j : Int) : Prop := mulOk i j = true
theorem CMulG.ok {i j : Int} (h : CMulG i j) : IntMulOk i j := by
  unfold CMulG mulOk at h
  simp only [Bool.or_eq_true, decide_eq_true_eq] at h
  rcases h with (h | h) | h
  · exact CMul.ok (.inl ⟨by omega, by omega⟩)
  · exact CMul.ok (.inr ⟨by omega, by omega⟩)
  · exact CMulW.ok h
theorem op_mulG : OpR X (binaryOp .Mult) (rI CMulG fun i j => .int (i * j)) := opI fun _ _ _ _ _ _ _ hc q => mul_int q hc.ok
theorem iop_mulG : OpR X (inplaceOp .Mult) (rI CMulG fun i j => .int (i * j)) := opI fun _ _ _ _ _ _ _ hc q => imul_int q hc.ok
theorem bin_sub (hX : Of X g) : ∃ r, OpR X (binaryOp .Sub) r ∧ BinOk g dSub r := by
  refine ⟨_, op_sub, ?_⟩
  intro F H z x y d e d' fr Q s c kx ky hf h
  cases d with
  | int i =>
    cases e with
    | int j =>
      simp only [dSub, Option.some.injEq, Prod.mk.injEq] at hf
      obtain ⟨rfl, rfl⟩ := hf
      exact ⟨i, j, kx.int, ky.int, h _ F H (Step.refl s c) (.int _)⟩
    | _ => simp [dSub] at hf
  | _ => simp [dSub] at hf
theorem bin_div (hX : Of X g) : ∃ r, OpR X (binaryOp .FloorDiv) r ∧ BinOk g dDiv r := by
  refine ⟨_, op_fdivG, ?_⟩
  intro F H z x y d e d' fr Q s c kx ky hf h
  cases d with
  | int i =>
    cases e with
    | int j =>
      simp only [dDiv] at hf
      split at hf
      · rename_i hl
        simp only [Option.some.injEq, Prod.mk.injEq] at hf
        obtain ⟨rfl, rfl⟩ := hf
        exact ⟨i, j, kx.int, ky.int, hl, h _ F H (Step.refl s c) (.int _)⟩
      · cases hf
    | _ => simp [dDiv] at hf
  | _ => simp [dDiv] at hf
theorem bin_mod (hX : Of X g) : ∃ r, OpR X (binaryOp .Mod) r ∧ BinOk g dMod r := by
  refine ⟨_, op_modN, ?_⟩
  intro F H z x y d e d' fr Q s c kx ky hf h
  cases d with
  | int i =>
    cases e with
    | int j =>
      simp only [dMod] at hf
      split at hf
      · rename_i hl
        simp only [Option.some.injEq, Prod.mk.injEq] at hf
        obtain ⟨rfl, rfl⟩ := hf
        exact ⟨i, j, kx.int, ky.int, hl, h _ F H (Step.refl s c) (.int _)⟩
      · cases hf
    | _ => simp [dMod] at hf
  | _ => simp [dMod] at hf
theorem bin_pow (hX : Of X g) : ∃ r, OpR X (binaryOp .Pow) r ∧ BinOk g dPow r := by
  refine ⟨_, op_pow, ?_⟩
  intro F H z x y d e d' fr Q s c kx ky hf h
  cases d with
  | int i =>
    cases e with
    | int j =>
      simp only [dPow] at hf
      split at hf
      · rename_i hl
        simp only [Option.some.injEq, Prod.mk.injEq] at hf
        obtain ⟨rfl, rfl⟩ := hf
        exact ⟨i, j, kx.int, ky.int, ⟨hl.1, hl.2.1, by have := hl.2.2; omega⟩, h _ F H (Step.refl s c) (.int _)⟩
      · cases hf
    | _ => simp [dPow] at hf
  | _ => simp [dPow] at hf
end
end Tw

namespace Tw
open PySem PySem.Spec PyProof.Rows L2

theorem obind {α β : Type} {o : Option α} {f : α → Option β} {b : β} (h : o.bind f = some b) : ∃ a, o = some a ∧ f a = some b := by
  cases o with
  | none => cases h
  | some a => exact ⟨a, rfl, h⟩
theorem omap {α β : Type} {o : Option α} {f : α → β} {b : β} (h : o.map f = some b) : ∃ a, o = some a ∧ f a = b := by
  cases o with
  | none => cases h
  | some a => exact ⟨a, rfl, Option.some.inj h⟩

section
variable {g : Gc} {F F' H H' : Hp} {σ : L2.St} {env : Env'} {z : Int} {X : Cx}
theorem notTooLong {n : Nat} (h : n ≤ sizeLine) : PySem.Builtin.Str.tooLong n = false := by
  unfold PySem.Builtin.Str.tooLong
  exact decide_eq_false (Nat.not_lt.mpr h)
theorem op_mulS : OpR X (binaryOp .Mult) (fun x y H Q => ∃ i k, x = .str i ∧ y = .int k ∧ -1000000 ≤ k ∧ k ≤ 1000000 ∧ i.length * k.toNat ≤ 1000000 ∧ Q (.str ⟨(List.replicate k.toNat i.cps.toList).flatten.toArray⟩) H) := by
  intro pins s σ H x y v u Q I rx ry h
  obtain ⟨i, k, rfl, rfl, h1, h2, h3, q⟩ := h
  obtain ⟨t, rfl⟩ := rx
  obtain ⟨t', rfl⟩ := ry
  have key : ∀ m : Nat, (List.replicate m i.cps).foldl (· ++ ·) #[] = (List.replicate m i.cps.toList).flatten.toArray := fun m => by
    have gen : ∀ (m : Nat) (acc : Array Nat), (List.replicate m i.cps).foldl (· ++ ·) acc = acc ++ (List.replicate m i.cps.toList).flatten.toArray := by
      intro m
      induction m with
      | zero => intro acc; simp
      | succ m ih =>
        intro acc
        rw [List.replicate_succ, List.foldl_cons, ih, List.replicate_succ, List.flatten_cons]
        apply Array.ext'
        simp
    rw [gen]; simp
  refine PySem.P.mul_str ?_ ?_ ?_ ?_
  · have a1 : ¬ k < -(2 ^ 63 : Int) := by omega
    have a2 : ¬ k ≥ 2 ^ 63 := by omega
    rw [decide_eq_false a1, decide_eq_false a2]; rfl
  · intro h4 h5
    have hk : 1 ≤ k := by omega
    have e1 : ((i.length * k.toNat : Nat) : Int) = (i.length : Int) * k := by
      rw [Int.natCast_mul]; congr 1; omega
    have h6 : (i.length : Int) * k ≤ 1000000 := by rw [← e1]; omega
    intro h7
    have h8 : (2 ^ 63 - 1) / k < (i.length : Int) := h7
    have h9 := (Int.ediv_lt_iff_lt_mul (by omega : (0 : Int) < k)).mp h8
    omega
  · intro h4 h5
    have h6 : i.length * k.toNat ≤ sizeLine := by rw [lim_eq]; show _ ≤ 16777216; omega
    exact notTooLong h6
  · by_cases c1 : k < 1
    · rw [if_pos c1]
      have e0 : k.toNat = 0 := by omega
      rw [e0] at q
      exact ⟨by decide, .str Str.empty, H, I.tok _, ⟨_, rfl⟩, q⟩
    · rw [if_neg c1]
      by_cases c2 : (k == 1 || i.length == 0) = true
      · rw [if_pos c2]
        have e0 : (⟨(List.replicate k.toNat i.cps.toList).flatten.toArray⟩ : Str) = i := by
          rcases Bool.or_eq_true_iff.mp c2 with e | e
          · have e' : k = 1 := by simpa using e
            subst e'
            obtain ⟨c⟩ := i
            simp
          · have e' : i.length = 0 := by simpa using e
            obtain ⟨c⟩ := i
            have : c = #[] := Array.eq_empty_of_size_eq_zero e'
            subst this
            simp
        rw [e0] at q
        exact ⟨.str i, H, I, ⟨_, rfl⟩, q⟩
      · rw [if_neg c2]
        refine ⟨?_, .str _, H, I.tok _, ⟨_, rfl⟩, ?_⟩
        · show ((List.replicate k.toNat i.cps).foldl (· ++ ·) #[]).size ≤ sizeLine
          rw [key]
          simp only [List.size_toArray, List.length_flatten, List.map_replicate, List.sum_replicate_nat, Array.length_toList]
          rw [lim_eq]
          show _ ≤ 16777216
          have : k.toNat * i.cps.size = i.length * k.toNat := Nat.mul_comm _ _
          omega
        · rw [key]; exact q
theorem RepL.rep {vs : List V} {ds : List D} (r : RepL g F vs ds) : ∀ n : Nat, RepL g F (List.replicate n vs).flatten (List.replicate n ds).flatten
  | 0 => .nil
  | n + 1 => by
    rw [List.replicate_succ, List.flatten_cons, List.replicate_succ, List.flatten_cons]
    exact r.append (RepL.rep r n)
theorem bin_mul (hX : Of X g) : ∃ r, OpR X (binaryOp .Mult) r ∧ BinOk g dMul r := by
  refine ⟨_, op_mulG.or (op_rep.or op_mulS), ?_⟩
  intro F H z x y d e d' fr Q s c kx ky hf h
  cases d with
  | int i =>
    cases e with
    | int j =>
      simp only [dMul] at hf
      split at hf
      · rename_i hl
        simp only [Option.some.injEq, Prod.mk.injEq] at hf
        obtain ⟨rfl, rfl⟩ := hf
        exact .inl ⟨i, j, kx.int, ky.int, hl, h _ F H (Step.refl s c) (.int _)⟩
      · cases hf
    | _ => simp [dMul] at hf
  | lst i =>
    cases e with
    | int k =>
      simp only [dMul] at hf
      split at hf
      · rename_i hl
        simp only [Option.some.injEq, Prod.mk.injEq] at hf
        obtain ⟨rfl, rfl⟩ := hf
        obtain ⟨a, vs, ex, h1, h2, h3⟩ := kx.lst s
        have hl' : vs.length * k.toNat ≤ sizeLine := by rw [lim_eq, h3.length]; exact hl.2.2
        have hz : (List.replicate k.toNat vs).flatten.length ≤ sizeLine := by
          simp only [List.length_flatten, List.map_replicate, List.sum_replicate_nat]
          rw [Nat.mul_comm]; exact hl'
        exact .inr (.inl ⟨a, k, vs, ex, ky.int, h1, by omega, by omega, hl', fun p hp => h _ _ _ (Step.new s c hp) (Step.freshVal s c hp hz (h3.rep _))⟩)
      · cases hf
    | _ => simp [dMul] at hf
  | str i =>
    cases e with
    | int k =>
      simp only [dMul] at hf
      split at hf
      · rename_i hl
        simp only [Option.some.injEq, Prod.mk.injEq] at hf
        obtain ⟨rfl, rfl⟩ := hf
        refine .inr (.inr ⟨i, k, kx.str.1, ky.int, hl.2.1, hl.1, hl.2.2, h _ F H (Step.refl s c) (.str _ ?_)⟩)
        show ((List.replicate k.toNat i.cps.toList).flatten.toArray).size ≤ sizeLine
        simp only [List.size_toArray, List.length_flatten, List.map_replicate, List.sum_replicate_nat, Array.length_toList]
        rw [lim_eq]
        have e0 : k.toNat * i.cps.size = i.length * k.toNat := Nat.mul_comm _ _
        have e1 := hl.2.2
        show _ ≤ 16777216
        omega
      · cases hf
    | _ => simp [dMul] at hf
  | _ => simp [dMul] at hf
theorem ee_neg {a : Expr} {pos : Pos} {ma : OM} (ha : OE X g a ma) : EE X g (.UnaryOp .USub a pos) (mUn dNeg ma) :=
  PE.imp (pe_un un_neg ha) fun σ H Q ⟨F, env, z, d, fr, z', sr, e, h⟩ => by
    obtain ⟨p, q1, e⟩ := obind e
    obtain ⟨w, q2, e⟩ := omap e
    cases hp : p.1 with
    | int i =>
      rw [hp] at q2
      simp only [dNeg, Option.some.injEq] at q2
      subst q2
      simp only [Prod.mk.injEq] at e
      obtain ⟨rfl, rfl, rfl⟩ := e
      refine tP.at sr q1 fun x F1 H1 s1 k1 => ?_
      rw [hp] at k1
      exact ⟨i, k1.int, h _ F1 H1 s1 (.int _)⟩
    | _ => rw [hp] at q2; simp [dNeg] at q2

/-! ### comparisons of ints and texts; tests -/
/-- what a comparison of looked-at values is to give -/
def CmpOk (g : Gc) (f : D → D → Option Bool) (r : R2) : Prop :=
  ∀ {F H : Hp} {z : Int} {x y : V} {d e : D} {b : Bool} (Q : VK), Same F H → CellOk g F H z → Pk g F H x d → Pk g F H y e → f d e = some b → Q (.bl b) H → r x y H Q
theorem ce_cmp {a b : Expr} {pos : Pos} {op : CmpOp} {r : R2} {f : D → D → Option Bool} {ma mb : OM} (ho : OpR X (compareOp op) r) (hf : CmpOk g f r) (ha : OE X g a ma) (hb : OE X g b mb) (hm : behindInMarks op b = false) : CE' X g (.Compare a [op] [b] pos) (cCmp f ma mb) :=
  PT.imp (pt_cmpR ho ha hb hm) fun σ H Q ⟨F, env, z, b, z', sr, e, h⟩ => by
    obtain ⟨p, q1, e⟩ := obind e
    obtain ⟨q, q2, e⟩ := obind e
    obtain ⟨w, q3, e⟩ := omap e
    simp only [Prod.mk.injEq] at e
    obtain ⟨rfl, rfl⟩ := e
    refine tP.at sr q1 fun x F1 H1 s1 k1 => ?_
    refine tP.at (sr.step s1) q2 fun y F2 H2 s2 k2 => ?_
    exact hf _ s2.sub s2.cell (k1.step s2) k2 q3 ⟨w, rfl, h F2 H2 (s1.trans s2)⟩
theorem ee_cmp {a b : Expr} {pos : Pos} {op : CmpOp} {r : R2} {f : D → D → Option Bool} {ma mb : OM} (ho : OpR X (compareOp op) r) (hf : CmpOk g f r) (ha : OE X g a ma) (hb : OE X g b mb) (hm : behindInMarks op b = false) : EE X g (.Compare a [op] [b] pos) (eB (cCmp f ma mb)) :=
  PE.imp (pe_cmpR ho ha hb hm) fun σ H Q ⟨F, env, z, d, fr, z', sr, e, h⟩ => by
    obtain ⟨t, e1, e'⟩ := omap e
    simp only [Prod.mk.injEq] at e'
    obtain ⟨rfl, rfl, rfl⟩ := e'
    obtain ⟨p, q1, e2⟩ := obind e1
    obtain ⟨q, q2, e3⟩ := obind e2
    obtain ⟨w, q3, e4⟩ := omap e3
    subst e4
    refine tP.at sr q1 fun x F1 H1 s1 k1 => ?_
    refine tP.at (sr.step s1) q2 fun y F2 H2 s2 k2 => ?_
    exact hf _ s2.sub s2.cell (k1.step s2) k2 q3 (h _ F2 H2 (s1.trans s2) (.bl w))
/-- an expression that gives True or False, as a test -/
theorem ce_val {e : Expr} {m : EM} (h : EE X g e m) (he : ∀ whole, isTrue e X.env whole = (do let v ← whole; standAt e.pos; holding [v] (truthy v)) := by intro _; rfl) : CE' X g e (cE m) :=
  PT.imp (pt_val h he) fun σ H Q ⟨F, env, z, b, z', sr, e, h⟩ => by
    obtain ⟨⟨d, fr, z1⟩, q1, e⟩ := obind e
    cases d with
    | bl c =>
      simp only [Option.some.injEq, Prod.mk.injEq] at e
      obtain ⟨rfl, rfl⟩ := e
      refine tE.sh sr q1 fun v F1 H1 s1 k1 => ?_
      cases k1
      exact ⟨c, rfl, h F1 H1 s1⟩
    | _ => simp at e
theorem ce_not {a : Expr} {pos : Pos} {m : TM} (h : CE' X g a m) : CE' X g (.UnaryOp .Not a pos) (cNot m) :=
  PT.imp (pt_not h) fun σ H Q ⟨F, env, z, b, z', sr, e, h⟩ => by
    obtain ⟨p, q1, e⟩ := omap e
    simp only [Prod.mk.injEq] at e
    obtain ⟨rfl, rfl⟩ := e
    exact tT.at sr q1 fun F1 H1 s1 => h F1 H1 s1
def CW (X : Cx) (g : Gc) (e : Expr) (m : TM) : Prop := PW X e (tT g m)
theorem CW.ce {e : Expr} {m : TM} (h : CW X g e m) : CE' X g e m := PW.pt h
theorem cw_and1 {a : Expr} {pos : Pos} {m : TM} (h : CE' X g a m) : CW X g (.BoolOp .And [a] pos) m := pw_and1 h
theorem cw_or1 {a : Expr} {pos : Pos} {m : TM} (h : CE' X g a m) : CW X g (.BoolOp .Or [a] pos) m := pw_or1 h
theorem cw_and {a b : Expr} {rest : List Expr} {pos : Pos} {ma mb : TM} (ha : CE' X g a ma) (hb : CW X g (.BoolOp .And (b :: rest) pos) mb) : CW X g (.BoolOp .And (a :: b :: rest) pos) (cAnd ma mb) :=
  PW.imp (pw_and ha hb) fun σ H Q ⟨F, env, z, b, z', sr, e, h⟩ => by
    obtain ⟨p, q1, e⟩ := obind e
    refine tT.at sr q1 fun F1 H1 s1 => ?_
    by_cases c : p.1 = true
    · rw [if_pos c] at e
      rw [if_pos c]
      exact tT.at (sr.step s1) e fun F2 H2 s2 => h F2 H2 (s1.trans s2)
    · rw [if_neg c] at e
      rw [if_neg c]
      simp only [Option.some.injEq, Prod.mk.injEq] at e
      obtain ⟨rfl, rfl⟩ := e
      exact h F1 H1 s1
theorem cw_or {a b : Expr} {rest : List Expr} {pos : Pos} {ma mb : TM} (ha : CE' X g a ma) (hb : CW X g (.BoolOp .Or (b :: rest) pos) mb) : CW X g (.BoolOp .Or (a :: b :: rest) pos) (cOr ma mb) :=
  PW.imp (pw_or ha hb) fun σ H Q ⟨F, env, z, b, z', sr, e, h⟩ => by
    obtain ⟨p, q1, e⟩ := obind e
    refine tT.at sr q1 fun F1 H1 s1 => ?_
    by_cases c : p.1 = true
    · rw [if_pos c] at e
      rw [if_pos c]
      simp only [Option.some.injEq, Prod.mk.injEq] at e
      obtain ⟨rfl, rfl⟩ := e
      exact h F1 H1 s1
    · rw [if_neg c] at e
      rw [if_neg c]
      exact tT.at (sr.step s1) e fun F2 H2 s2 => h F2 H2 (s1.trans s2)
/-- and, or, not as values: of bools -/
theorem ee_one {a : Expr} {op} {pos : Pos} {m : EM} (h : EE X g a m) : EE X g (.BoolOp op [a] pos) m := pe_one h
def eAnd (a b : EM) : EM := fun env z => (cE a env z).bind fun p => if p.1 = true then b env p.2 else some (.bl false, false, p.2)
def eOr (a b : EM) : EM := fun env z => (cE a env z).bind fun p => if p.1 = true then some (.bl true, false, p.2) else b env p.2
def eNot (a : EM) : EM := fun env z => (cE a env z).map fun p => (.bl (!p.1), false, p.2)
theorem cE_some {m : EM} {b : Bool} {z' : Int} (h : cE m env z = some (b, z')) : ∃ fr, m env z = some (.bl b, fr, z') := by
  obtain ⟨⟨d, fr, z1⟩, q1, e⟩ := obind h
  cases d with
  | bl c =>
    simp only [Option.some.injEq, Prod.mk.injEq] at e
    obtain ⟨rfl, rfl⟩ := e
    exact ⟨fr, q1⟩
  | _ => simp at e
theorem ee_and {a b : Expr} {rest : List Expr} {pos : Pos} {ma mb : EM} (ha : EE X g a ma) (hb : EE X g (.BoolOp .And (b :: rest) pos) mb) : EE X g (.BoolOp .And (a :: b :: rest) pos) (eAnd ma mb) :=
  PE.imp (pe_and ha hb) fun σ H Q ⟨F, env, z, d, fr, z', sr, e, h⟩ => by
    obtain ⟨⟨c, z1⟩, q1, e⟩ := obind e
    obtain ⟨fr1, q1⟩ := cE_some q1
    refine tE.sh sr q1 fun v F1 H1 s1 k1 => ?_
    cases k1
    refine ⟨c, rfl, ?_⟩
    cases c with
    | true =>
      rw [if_pos rfl] at e
      rw [if_pos rfl]
      exact tE.at (sr.step s1) e fun v F2 H2 s2 k2 => h v F2 H2 (s1.trans s2) (k2.back s1)
    | false =>
      rw [if_neg Bool.false_ne_true] at e
      rw [if_neg Bool.false_ne_true]
      simp only [Option.some.injEq, Prod.mk.injEq] at e
      obtain ⟨rfl, rfl, rfl⟩ := e
      exact h _ F1 H1 s1 (.bl false)
theorem ee_or {a b : Expr} {rest : List Expr} {pos : Pos} {ma mb : EM} (ha : EE X g a ma) (hb : EE X g (.BoolOp .Or (b :: rest) pos) mb) : EE X g (.BoolOp .Or (a :: b :: rest) pos) (eOr ma mb) :=
  PE.imp (pe_or ha hb) fun σ H Q ⟨F, env, z, d, fr, z', sr, e, h⟩ => by
    obtain ⟨⟨c, z1⟩, q1, e⟩ := obind e
    obtain ⟨fr1, q1⟩ := cE_some q1
    refine tE.sh sr q1 fun v F1 H1 s1 k1 => ?_
    cases k1
    refine ⟨c, rfl, ?_⟩
    cases c with
    | false =>
      rw [if_neg Bool.false_ne_true] at e
      rw [if_neg Bool.false_ne_true]
      exact tE.at (sr.step s1) e fun v F2 H2 s2 k2 => h v F2 H2 (s1.trans s2) (k2.back s1)
    | true =>
      rw [if_pos rfl] at e
      rw [if_pos rfl]
      simp only [Option.some.injEq, Prod.mk.injEq] at e
      obtain ⟨rfl, rfl, rfl⟩ := e
      exact h _ F1 H1 s1 (.bl true)
theorem ee_not {a : Expr} {pos : Pos} {ma : EM} (ha : EE X g a ma) : EE X g (.UnaryOp .Not a pos) (eNot ma) :=
  PE.imp (pe_not ha) fun σ H Q ⟨F, env, z, d, fr, z', sr, e, h⟩ => by
    obtain ⟨⟨c, z1⟩, q1, e⟩ := omap e
    obtain ⟨fr1, q1⟩ := cE_some q1
    simp only [Prod.mk.injEq] at e
    obtain ⟨rfl, rfl, rfl⟩ := e
    refine tE.sh sr q1 fun v F1 H1 s1 k1 => ?_
    cases k1
    exact ⟨c, rfl, h _ F1 H1 s1 (.bl _)⟩
theorem ee_if {c a b : Expr} {pos : Pos} {mc : TM} {ma mb : EM} (hc : CE' X g c mc) (ha : EE X g a ma) (hb : EE X g b mb) : EE X g (.IfExp c a b pos) (eIf mc ma mb) :=
  PE.imp (pe_ifExp hc ha hb) fun σ H Q ⟨F, env, z, d, fr, z', sr, e, h⟩ => by
    obtain ⟨p, q1, e⟩ := obind e
    refine tT.at sr q1 fun F1 H1 s1 => ?_
    by_cases c : p.1 = true
    · rw [if_pos c] at e
      rw [if_pos c]
      exact tE.at (sr.step s1) e fun v F2 H2 s2 k2 => h v F2 H2 (s1.trans s2) (k2.back s1)
    · rw [if_neg c] at e
      rw [if_neg c]
      exact tE.at (sr.step s1) e fun v F2 H2 s2 k2 => h v F2 H2 (s1.trans s2) (k2.back s1)
def dLt : D → D → Option Bool
  | .int i, .int j => some (decide (i < j))
  | _, _ => none
def dLe : D → D → Option Bool
  | .int i, .int j => some (decide (i ≤ j))
  | _, _ => none
def dGt : D → D → Option Bool
  | .int i, .int j => some (decide (j < i))
  | _, _ => none
def dGe : D → D → Option Bool
  | .int i, .int j => some (decide (j ≤ i))
  | _, _ => none
theorem cmp_int {f : D → D → Option Bool} {p : Int → Int → Bool} (hf : ∀ d e b, f d e = some b → ∃ i j, d = .int i ∧ e = .int j ∧ b = p i j) : CmpOk g f (rI0 fun i j => .bl (p i j)) := by
  intro F H z x y d e b Q s c kx ky h q
  obtain ⟨i, j, rfl, rfl, rfl⟩ := hf _ _ _ h
  exact ⟨i, j, kx.int, ky.int, q⟩
theorem cmp_le : CmpOk g dLe (rI0 fun i j => .bl (decide (i ≤ j))) := cmp_int fun d e b h => by
  cases d <;> cases e <;> simp [dLe] at h
  exact ⟨_, _, rfl, rfl, h.symm⟩
theorem cmp_gt : CmpOk g dGt (rI0 fun i j => .bl (decide (j < i))) := cmp_int fun d e b h => by
  cases d <;> cases e <;> simp [dGt] at h
  exact ⟨_, _, rfl, rfl, h.symm⟩
theorem cmp_ge : CmpOk g dGe (rI0 fun i j => .bl (decide (j ≤ i))) := cmp_int fun d e b h => by
  cases d <;> cases e <;> simp [dGe] at h
  exact ⟨_, _, rfl, rfl, h.symm⟩

/-! ### arguments, displays, calls -/
theorem ae_nil : AE X g [] aNil := PA.imp pa_nil fun σ H Q ⟨F, env, z, ds, z', sr, e, h⟩ => by
  simp only [aNil, Option.some.injEq, Prod.mk.injEq] at e
  obtain ⟨rfl, rfl⟩ := e
  exact h [] F H sr.refl .nil
theorem ae_cons {e : Expr} {es : List Expr} {m : EM} {ms : AM} (ha : EE X g e m) (hr : AE X g es ms) (hs : starEach (e :: es) X.env = (false, eval e X.env) :: starEach es X.env := by rfl) : AE X g (e :: es) (aCons m ms) :=
  PA.imp (pa_cons ha hr hs) fun σ H Q ⟨F, env, z, ds, z', sr, e, h⟩ => by
    obtain ⟨⟨d, fr, z1⟩, q1, e⟩ := obind e
    obtain ⟨⟨ds', z2⟩, q2, e⟩ := omap e
    simp only [Prod.mk.injEq] at e
    obtain ⟨rfl, rfl⟩ := e
    refine tE.sh sr q1 fun v F1 H1 s1 k1 => ?_
    refine tAr.at (sr.step s1) q2 fun vs F2 H2 s2 k2 => ?_
    exact h _ F2 H2 (s1.trans s2) (.cons (k1.same s2.grow) k2)
theorem ee_tup {es : List Expr} {pos : Pos} {k} {m : AM} (h : AE X g es m) : EE X g (.Tuple es k pos) (eTup m) :=
  PE.imp (pe_tup h) fun σ H Q ⟨F, env, z, d, fr, z', sr, e, h⟩ => by
    obtain ⟨p, q1, e⟩ := obind e
    split at e
    · rename_i hl
      simp only [Option.some.injEq, Prod.mk.injEq] at e
      obtain ⟨rfl, rfl, rfl⟩ := e
      refine tAr.at sr q1 fun vs F1 H1 s1 k1 => ?_
      have hz : vs.length ≤ sizeLine := by rw [lim_eq, k1.length]; exact hl
      exact ⟨hz, fun p hp => h _ _ _ (s1.trans (Step.newF s1.sub s1.cell hp)) (Step.tupVal s1.sub hp hz k1)⟩
    · cases e
theorem ee_lst {es : List Expr} {pos : Pos} {m : AM} (h : AE X g es m) : EE X g (.List es pos) (eLst m) :=
  PE.imp (pe_lst h) fun σ H Q ⟨F, env, z, d, fr, z', sr, e, h⟩ => by
    obtain ⟨p, q1, e⟩ := obind e
    split at e
    · rename_i hl
      simp only [Option.some.injEq, Prod.mk.injEq] at e
      obtain ⟨rfl, rfl, rfl⟩ := e
      refine tAr.at sr q1 fun vs F1 H1 s1 k1 => ?_
      have hz : vs.length ≤ sizeLine := by rw [lim_eq, k1.length]; exact hl
      exact ⟨hz, fun p hp => h _ _ _ (s1.trans (Step.new s1.sub s1.cell hp)) ((Step.freshVal s1.sub s1.cell hp hz k1).back s1)⟩
    · cases e

/-- what a def promises, by its denotation -/
def spD (g : Gc) (G : List D → Int → ER) : Sp := fun vs H Q _ => ∃ F ds z d fr z', Same F H ∧ CellOk g F H z ∧ RepL g F vs ds ∧ G ds z = some (d, fr, z') ∧ ∀ v F' H', Step g F H F' H' z' → Val g H F' H' v d fr → Q v H'
/-- the def x stands in the module and keeps its promise with n calls within one another -/
structure HaveFn (g : Gc) (n : Nat) (x : Str) (G : List D → Int → ER) : Prop where
  ex : ∃ f fd ps, FnOk g.P g.w g.K g.mg g.base CX0 n f fd ps (spD g G) ∧ g.mg x = some (.ref f) ∧ PySem.W.keepIn g.K (.ref f) = true ∧ Binds g.K fd ps []
theorem ee_call {x : Str} {e : Expr} {es : List Expr} {p pos : Pos} {n : Nat} {G : List D → Int → ER} {m : AM} (hX : Of X g) (hr : Room n X.A) (T : HaveFn g n x G) (ha : AE X g (e :: es) m) (hg : Gl X x := by rfl) (hdb : (x == ("__debug__" : Str)) = false := by decide)
    (he : starEach (e :: es) X.env = (false, eval e X.env) :: starEach es X.env := by rfl) (hpl : (backTo pos (starEach es X.env)).any (·.1) = false := by rfl) : EE X g (.Call (.Name x p) (e :: es) [] pos) (eCall G m) := by
  obtain ⟨f, fd, ps, Fo, hm, hk, hb⟩ := T.ex
  have Fo' : FnOk X.prog X.w X.K X.mg X.base CX0 n f fd ps (spD g G) := by
    rw [hX.P, hX.w, hX.K, hX.mg, hX.base]; exact Fo
  refine PE.imp (pe_call Fo' hr hg (by rw [hX.mg]; exact hm) (by rw [hX.K]; exact hk) (by rw [hX.K]; exact hb) .nil pass0 ha hdb he hpl) fun σ H Q ⟨F, env, z, d, fr, z', sr, e, h⟩ => ?_
  obtain ⟨⟨ds, z1⟩, q1, e⟩ := obind e
  refine tAr.at sr q1 fun vs F1 H1 s1 k1 => ?_
  rw [List.append_nil]
  exact ⟨F1, ds, z1, d, fr, z', s1.sub, s1.cell, k1, e, fun v F2 H2 s2 k2 => h v F2 H2 (s1.trans s2) (k2.back s1)⟩
end
end Tw

namespace Tw
open PySem PySem.Spec PyProof.Rows L2

/-! ### statements -/
inductive RS where
  | nx (env : Env') (z : Int)
  | bk (env : Env') (z : Int)
  | ct (env : Env') (z : Int)
  | rt (d : D) (fr : Bool) (env : Env') (z : Int)
  | bad
abbrev SM := Env' → Int → RS

/-- what has become of the entry's heaps; M: the objects that may have been changed -/
structure Ent (g : Gc) (M : List Addr) (F0 H0 F H : Hp) : Prop where
  grow : Same F0 F
  fr : ∀ a, H0 a ≠ none → F0 a = none → F a = none
  same : ∀ a o, a ∉ M → g.cl ≠ some a → H0 a = some o → H a = some o
  there : ∀ a, H0 a ≠ none → H a ≠ none
structure Rs (g : Gc) (M : List Addr) (F0 H0 F H : Hp) (σ : L2.St) (env : Env') (z : Int) : Prop where
  sr : SR g F H σ env z
  ent : Ent g M F0 H0 F H
  own : ∀ (i : Nat) (d : D) (p : Addr), env[i]? = some (.ow d) → σ[i]? = some (some (.ref p)) → H0 p = none ∨ p ∈ M
def Post (g : Gc) (M : List Addr) (F0 H0 : Hp) (D : Ends) : RS → Prop
  | .nx env z => ∀ σ F H, Rs g M F0 H0 F H σ env z → D.nx σ H
  | .bk env z => ∀ σ F H, Rs g M F0 H0 F H σ env z → D.bk σ H
  | .ct env z => ∀ σ F H, Rs g M F0 H0 F H σ env z → D.ct σ H
  | .rt d fr env z => ∀ v σ F H, Rs g M F0 H0 F H σ env z → Val g H0 F H v d fr → D.rt v H
  | .bad => False
def tS (g : Gc) (M : List Addr) (m : SM) : TS := fun D σ H => ∃ F0 H0 F env z, Rs g M F0 H0 F H σ env z ∧ Post g M F0 H0 D (m env z)
def SS (X : Cx) (g : Gc) (M : List Addr) (st : Stmt) (m : SM) : Prop := PS X st (tS g M m)
def SSs (X : Cx) (g : Gc) (M : List Addr) (st : List Stmt) (m : SM) : Prop := PSs X st (tS g M m)

section
variable {g : Gc} {M : List Addr} {F0 H0 F F' H H' : Hp} {σ σ' : L2.St} {env env' : Env'} {z z' : Int} {X : Cx} {D0 : Ends}
theorem Ent.step (e : Ent g M F0 H0 F H) (s : Step g F H F' H' z') : Ent g M F0 H0 F' H' :=
  ⟨e.grow.trans s.grow, fun a h n => s.fr a (e.there a h) (e.fr a h n), fun a o h c q => s.keep a o c (e.same a o h c q), fun a h => s.there (e.there a h)⟩
theorem Rs.step (r : Rs g M F0 H0 F H σ env z) (s : Step g F H F' H' z') : Rs g M F0 H0 F' H' σ env z' := ⟨r.sr.step s, r.ent.step s, r.own⟩
theorem Ent.refl (F H : Hp) : Ent g M F H F H := ⟨Same.refl _, fun _ _ n => n, fun _ _ _ _ q => q, fun _ h => h⟩
theorem Ent.toStep (e : Ent g [] F0 H0 F H) (s : Same F H) (c : CellOk g F H z) : Step g F0 H0 F H z := ⟨s, e.grow, e.fr, fun a o c q => e.same a o (by simp) c q, c⟩

/-- a slot gets a shared value -/
theorem SR.setSh {i : Nat} {v : V} {d : D} (r : SR g F H σ env z) (k : Rep g F v d) : SR g F H (σ.set i (some v)) (env.set i (.sh d)) z := by
  refine ⟨r.sub, r.cell, by rw [List.length_set, List.length_set]; exact r.len, fun j s e => ?_, fun j l p d1 d2 e1 e2 e3 e4 => ?_⟩
  · by_cases hj : i = j
    · subst hj
      have hi : i < env.length := by
        by_cases q : i < env.length
        · exact q
        · rw [List.getElem?_eq_none (by rw [List.length_set]; omega)] at e; cases e
      rw [List.getElem?_set_self hi] at e
      cases e
      exact ⟨v, List.getElem?_set_self (by rw [r.len]; exact hi), k⟩
    · rw [List.getElem?_set_ne hj] at e
      rw [List.getElem?_set_ne hj]
      exact r.at_ j s e
  · have nj : i ≠ j := fun q => by
      subst q
      rw [List.getElem?_set] at e1
      split at e1
      · split at e1 <;> cases e1
      · contradiction
    have nl : i ≠ l := fun q => by
      subst q
      rw [List.getElem?_set] at e3
      split at e3
      · split at e3 <;> cases e3
      · contradiction
    rw [List.getElem?_set_ne nj] at e1 e2
    rw [List.getElem?_set_ne nl] at e3 e4
    exact r.inj j l p d1 d2 e1 e2 e3 e4
theorem Rs.setSh {i : Nat} {v : V} {d : D} (r : Rs g M F0 H0 F H σ env z) (k : Rep g F v d) : Rs g M F0 H0 F H (σ.set i (some v)) (env.set i (.sh d)) z := by
  refine ⟨r.sr.setSh k, r.ent, fun j d1 p e1 e2 => ?_⟩
  have nj : i ≠ j := fun q => by
    subst q
    rw [List.getElem?_set] at e1
    split at e1
    · split at e1 <;> cases e1
    · contradiction
  rw [List.getElem?_set_ne nj] at e1 e2
  exact r.own j d1 p e1 e2
/-- a slot gets an object of its own -/
theorem Rs.setOw {i : Nat} {p : Addr} {d : D} (r : Rs g M F0 H0 F H σ env z) (fp : F p = none) (cp : g.cl ≠ some p) (o : Own g F H p d) (hp : H0 p = none ∨ p ∈ M)
    (ho : ∀ (j : Nat) (d' : D), env[j]? = some (.ow d') → σ[j]? = some (some (.ref p)) → i = j) : Rs g M F0 H0 F H (σ.set i (some (.ref p))) (env.set i (.ow d)) z := by
  have key : ∀ (j : Nat) (q : Addr) (d' : D), (env.set i (.ow d))[j]? = some (.ow d') → (σ.set i (some (.ref p)))[j]? = some (some (.ref q)) → (i = j ∧ q = p) ∨ (i ≠ j ∧ env[j]? = some (.ow d') ∧ σ[j]? = some (some (.ref q))) := fun j q d' e1 e2 => by
    by_cases hj : i = j
    · subst hj
      have hi : i < σ.length := by
        by_cases q : i < σ.length
        · exact q
        · rw [List.getElem?_eq_none (by rw [List.length_set]; omega)] at e2; cases e2
      rw [List.getElem?_set_self hi] at e2
      cases e2
      exact .inl ⟨rfl, rfl⟩
    · rw [List.getElem?_set_ne hj] at e1 e2
      exact .inr ⟨hj, e1, e2⟩
  refine ⟨⟨r.sr.sub, r.sr.cell, by rw [List.length_set, List.length_set]; exact r.sr.len, fun j s e => ?_, fun j l q d1 d2 e1 e2 e3 e4 => ?_⟩, r.ent, fun j d1 q e1 e2 => ?_⟩
  · by_cases hj : i = j
    · subst hj
      have hi : i < env.length := by
        by_cases q : i < env.length
        · exact q
        · rw [List.getElem?_eq_none (by rw [List.length_set]; omega)] at e; cases e
      rw [List.getElem?_set_self hi] at e
      cases e
      exact ⟨p, List.getElem?_set_self (by rw [r.sr.len]; exact hi), fp, cp, o⟩
    · rw [List.getElem?_set_ne hj] at e
      rw [List.getElem?_set_ne hj]
      exact r.sr.at_ j s e
  · rcases key j q d1 e1 e2 with ⟨a1, a2⟩ | ⟨a1, a2, a3⟩
    · rcases key l q d2 e3 e4 with ⟨b1, b2⟩ | ⟨b1, b2, b3⟩
      · exact a1.symm.trans b1
      · subst a2; exact absurd (ho l d2 b2 b3) b1
    · rcases key l q d2 e3 e4 with ⟨b1, b2⟩ | ⟨b1, b2, b3⟩
      · subst b2; exact absurd (ho j d1 a2 a3) a1
      · exact r.sr.inj j l q d1 d2 a2 a3 b2 b3
  · rcases key j q d1 e1 e2 with ⟨a1, a2⟩ | ⟨a1, a2, a3⟩
    · subst a2; exact hp
    · exact r.own j d1 q a2 a3
/-- what an owned slot holds is not there for those who hold nothing yet -/
theorem Rs.slotSome {i : Nat} {d : D} {p : Addr} (r : Rs g M F0 H0 F H σ env z) (e1 : env[i]? = some (.ow d)) (e2 : σ[i]? = some (some (.ref p))) : F p = none ∧ g.cl ≠ some p ∧ Own g F H p d := by
  obtain ⟨q, h1, h2, h3, h4⟩ := r.sr.at_ i _ e1
  rw [e2] at h1
  simp only [Option.some.injEq, V.ref.injEq] at h1
  subst h1
  exact ⟨h2, h3, h4⟩
/-- an owned slot is shared from now on -/
theorem Rs.frz {i : Nat} {d : D} (r : Rs g M F0 H0 F H σ env z) (e1 : env[i]? = some (.ow d)) (hM : M = []) : ∃ F', Rs g M F0 H0 F' H σ (env.set i (.sh d)) z := by
  subst hM
  obtain ⟨p, h1, h2, h3, h4⟩ := r.sr.at_ i _ e1
  obtain ⟨u, hu⟩ := h4.obj
  have sf : Same F (upd F p u) := same_updN h2
  have h0 : H0 p = none := by
    rcases r.own i d p e1 h1 with q | q
    · exact q
    · simp at q
  have hi : i < env.length := by
    by_cases q : i < env.length
    · exact q
    · rw [List.getElem?_eq_none (by omega)] at e1; cases e1
  refine ⟨upd F p u, ⟨⟨fun b o q => ?_, fun c q => ?_, by rw [List.length_set]; exact r.sr.len, fun j s e => ?_, fun j l q d1 d2 a1 a2 a3 a4 => ?_⟩, ⟨r.ent.grow.trans sf, fun a q n => ?_, r.ent.same, r.ent.there⟩, fun j d1 q a1 a2 => ?_⟩⟩
  · by_cases e : b = p
    · subst e; rw [upd_same] at q; rw [hu]; exact q
    · rw [upd_ne e] at q; exact r.sr.sub _ _ q
  · have ⟨c1, c2⟩ := r.sr.cell c q
    exact ⟨c1, by rw [upd_ne (fun e => h3 (by rw [← e]; exact q))]; exact c2⟩
  · by_cases hj : i = j
    · subst hj
      rw [List.getElem?_set_self hi] at e
      cases e
      exact ⟨.ref p, h1, h4.rep sf (by rw [upd_same]; exact hu.symm)⟩
    · rw [List.getElem?_set_ne hj] at e
      have k := r.sr.at_ j s e
      cases s with
      | un => trivial
      | sh d1 => obtain ⟨v, b1, b2⟩ := k; exact ⟨v, b1, b2.same sf⟩
      | ow d1 =>
        obtain ⟨q, b1, b2, b3, b4⟩ := k
        have ne : q ≠ p := fun z => by subst z; exact hj (r.sr.inj i j q d d1 e1 h1 e b1)
        exact ⟨q, b1, by rw [upd_ne ne]; exact b2, b3, b4.move rfl sf⟩
  · have nj : i ≠ j := fun q => by
      subst q
      rw [List.getElem?_set_self hi] at a1; cases a1
    have nl : i ≠ l := fun q => by
      subst q
      rw [List.getElem?_set_self hi] at a3; cases a3
    rw [List.getElem?_set_ne nj] at a1
    rw [List.getElem?_set_ne nl] at a3
    exact r.sr.inj j l q d1 d2 a1 a2 a3 a4
  · by_cases e : a = p
    · subst e; exact absurd h0 q
    · rw [upd_ne e]; exact r.ent.fr a q n
  · have nj : i ≠ j := fun q => by
      subst q
      rw [List.getElem?_set_self hi] at a1; cases a1
    rw [List.getElem?_set_ne nj] at a1
    exact r.own j d1 q a1 a2
/-- the object of an owned slot is written -/
theorem Rs.write {i : Nat} {d d' : D} {p : Addr} {o : HO} (r : Rs g M F0 H0 F H σ env z) (e1 : env[i]? = some (.ow d)) (e2 : σ[i]? = some (some (.ref p))) (hn : Own g F (upd H p o) p d') : Rs g M F0 H0 F (upd H p o) σ (env.set i (.ow d')) z := by
  obtain ⟨h2, h3, h4⟩ := r.slotSome e1 e2
  have hi : i < env.length := by
    by_cases q : i < env.length
    · exact q
    · rw [List.getElem?_eq_none (by omega)] at e1; cases e1
  have back : ∀ (j : Nat) (d1 : D), (env.set i (.ow d'))[j]? = some (.ow d1) → ∃ d2, env[j]? = some (.ow d2) := fun j d1 a => by
    by_cases hj : i = j
    · subst hj; exact ⟨d, e1⟩
    · rw [List.getElem?_set_ne hj] at a; exact ⟨d1, a⟩
  refine ⟨⟨fun b u q => ?_, fun c q => ?_, by rw [List.length_set]; exact r.sr.len, fun j s e => ?_, fun j l q d1 d2 a1 a2 a3 a4 => ?_⟩, ⟨r.ent.grow, r.ent.fr, fun a u q c n => ?_, fun a q => ?_⟩, fun j d1 q a1 a2 => ?_⟩
  · rw [upd_ne (fun e => by subst e; rw [h2] at q; cases q)]; exact r.sr.sub _ _ q
  · have ⟨c1, c2⟩ := r.sr.cell c q
    exact ⟨by rw [upd_ne (fun e => h3 (by rw [← e]; exact q))]; exact c1, c2⟩
  · by_cases hj : i = j
    · subst hj
      rw [List.getElem?_set_self hi] at e
      cases e
      exact ⟨p, e2, h2, h3, hn⟩
    · rw [List.getElem?_set_ne hj] at e
      have k := r.sr.at_ j s e
      cases s with
      | un => trivial
      | sh d1 => exact k
      | ow d1 =>
        obtain ⟨q, b1, b2, b3, b4⟩ := k
        have ne : q ≠ p := fun z => by subst z; exact hj (r.sr.inj i j q d d1 e1 e2 e b1)
        exact ⟨q, b1, b2, b3, b4.move (upd_ne ne) (Same.refl _)⟩
  · obtain ⟨b1, g1⟩ := back j d1 a1
    obtain ⟨b2, g2⟩ := back l d2 a3
    exact r.sr.inj j l q b1 b2 g1 a2 g2 a4
  · have ne : a ≠ p := fun e => by
      subst e
      rcases r.own i d a e1 e2 with w | w
      · rw [w] at n; cases n
      · exact q w
    rw [upd_ne ne]; exact r.ent.same a u q c n
  · by_cases e : a = p
    · subst e; rw [upd_same]; simp
    · rw [upd_ne e]; exact r.ent.there a q
  · obtain ⟨b1, g1⟩ := back j d1 a1
    exact r.own j b1 q g1 a2

/-! ### the statements -/
def sSeq (a b : SM) : SM := fun env z => match a env z with
  | .nx env' z' => b env' z'
  | r => r
def sNil : SM := fun env z => .nx env z
def sSet (i : Nat) (m : EM) : SM := fun env z => match m env z with
  | some (d, _, z') => .nx (env.set i (.sh d)) z'
  | none => .bad
def sSetO (i : Nat) (m : EM) : SM := fun env z => match m env z with
  | some (d, true, z') => .nx (env.set i (.ow d)) z'
  | some (d, false, z') => .nx (env.set i (.sh d)) z'
  | none => .bad
def sFrz (i : Nat) (b : SM) : SM := fun env z => match env[i]? with
  | some (.ow d) => b (env.set i (.sh d)) z
  | _ => b env z
def sRet (m : EM) : SM := fun env z => match m env z with
  | some (d, fr, z') => .rt d fr env z'
  | none => .bad
def sRetO (i : Nat) : SM := fun env z => match env[i]? with
  | some (.ow d) => .rt d true env z
  | some (.sh d) => .rt d false env z
  | _ => .bad
def sRetN : SM := fun env z => .rt .non false env z
def sIf (c : TM) (a b : SM) : SM := fun env z => match c env z with
  | some (true, z') => a env z'
  | some (false, z') => b env z'
  | none => .bad
def sExpr (m : EM) : SM := fun env z => match m env z with
  | some (_, _, z') => .nx env z'
  | none => .bad
def sBk : SM := fun env z => .bk env z
def sCt : SM := fun env z => .ct env z

theorem tS.at {m : SM} (r : Rs g M F0 H0 F H σ env z) (h : Post g M F0 H0 D0 (m env z)) : tS g M m D0 σ H := ⟨F0, H0, F, env, z, r, h⟩
theorem ss_nil : SSs X g M [] sNil := PSs.imp pss_nil fun D σ H ⟨F0, H0, F, env, z, r, h⟩ => h σ F H r
theorem ss_cons {st : Stmt} {rest : List Stmt} {a b : SM} (h1 : SS X g M st a) (h2 : SSs X g M rest b) : SSs X g M (st :: rest) (sSeq a b) :=
  PSs.imp (pss_cons h1 h2) fun D σ H ⟨F0, H0, F, env, z, r, h⟩ => by
    refine ⟨F0, H0, F, env, z, r, ?_⟩
    unfold sSeq at h
    cases q : a env z with
    | nx env' z' =>
      rw [q] at h
      exact fun σ' F' H' r' => ⟨F0, H0, F', env', z', r', h⟩
    | bk env' z' => rw [q] at h; exact h
    | ct env' z' => rw [q] at h; exact h
    | rt d fr env' z' => rw [q] at h; exact h
    | bad => rw [q] at h; exact h
theorem ss_one {st : Stmt} {a : SM} (h1 : SS X g M st a) : SSs X g M [st] a := pss_one h1
theorem ss_frz {sts : List Stmt} {b : SM} (i : Nat) (hM : M = []) (h : SSs X g M sts b) : SSs X g M sts (sFrz i b) :=
  PSs.imp h fun D σ H ⟨F0, H0, F, env, z, r, h⟩ => by
    unfold sFrz at h
    split at h
    · rename_i d q
      obtain ⟨F', r'⟩ := r.frz q hM
      exact ⟨F0, H0, F', _, z, r', h⟩
    · exact ⟨F0, H0, F, env, z, r, h⟩
theorem ss_pass {pos : Pos} : SS X g M (.Pass pos) sNil := PS.imp ps_pass fun D σ H ⟨F0, H0, F, env, z, r, h⟩ => h σ F H r
theorem ss_break {pos : Pos} : SS X g M (.Break pos) sBk := PS.imp ps_break fun D σ H ⟨F0, H0, F, env, z, r, h⟩ => h σ F H r
theorem ss_cont {pos : Pos} : SS X g M (.Continue pos) sCt := PS.imp ps_continue fun D σ H ⟨F0, H0, F, env, z, r, h⟩ => h σ F H r
theorem ss_expr {e : Expr} {pos : Pos} {m : EM} (he : EE X g e m) (hs : swapsWith e none pos.line X.env = pure false := by rfl) : SS X g M (.Expr e pos) (sExpr m) :=
  PS.imp (ps_expr he hs) fun D σ H ⟨F0, H0, F, env, z, r, h⟩ => by
    unfold sExpr at h
    split at h
    · rename_i d fr z' q
      exact tE.at r.sr q fun v F' H' s k => h σ F' H' (r.step s)
    · exact h.elim
theorem Rs.val {v : V} {d : D} {fr : Bool} (r : Rs g M F0 H0 F H σ env z) (k : Val g H F' H' v d fr) : Val g H0 F' H' v d fr := by
  cases fr with
  | false => exact k
  | true =>
    obtain ⟨p, e1, n1, n2, n3, o⟩ := k
    refine ⟨p, e1, ?_, n2, n3, o⟩
    cases hq : H0 p with
    | none => rfl
    | some u => exact absurd n1 (r.ent.there p (by rw [hq]; simp))
theorem ss_ret {e : Expr} {pos : Pos} {m : EM} (he : EE X g e m) : SS X g M (.Return (some e) pos) (sRet m) :=
  PS.imp (ps_ret he) fun D σ H ⟨F0, H0, F, env, z, r, h⟩ => by
    unfold sRet at h
    split at h
    · rename_i d fr z' q
      exact tE.at r.sr q fun v F' H' s k => h v σ F' H' (r.step s) (r.val k)
    · exact h.elim
theorem ss_retN {pos : Pos} : SS X g M (.Return none pos) sRetN := PS.imp ps_retN fun D σ H ⟨F0, H0, F, env, z, r, h⟩ => h .non σ F H r .non
theorem ss_retO (i : Nat) {x : Str} {pos pos' : Pos} (hM : M = []) (hN : X.N[i]? = some x := by rfl) (hv : Vis X.env.scope x := by first | exact Or.inl rfl | exact Or.inr (Or.inl rfl) | exact Or.inr (Or.inr rfl)) (hd : (x == ("__debug__" : Str)) = false := by decide)
    (hcd : (x == ("__classdict__" : Str)) = false := by decide) : SS X g M (.Return (some (.Name x pos)) pos') (sRetO i) :=
  PS.imp (ps_ret (pe_var hN hv hd hcd)) fun D σ H ⟨F0, H0, F, env, z, r, h⟩ => by
    unfold sRetO at h
    split at h
    · rename_i d q
      obtain ⟨p, e1, n, c, o⟩ := r.sr.at_ i _ q
      have h0 : H0 p = none := by
        rcases r.own i d p q e1 with w | w
        · exact w
        · subst hM; simp at w
      exact ⟨.ref p, e1, h _ σ F H r ⟨p, rfl, h0, n, c, o⟩⟩
    · rename_i d q
      obtain ⟨v, e1, k⟩ := r.sr.at_ i _ q
      exact ⟨v, e1, h _ σ F H r k⟩
    · exact h.elim
theorem ss_if {c : Expr} {a b : List Stmt} {pos : Pos} {mc : TM} {ma mb : SM} (hc : CE' X g c mc) (ha : SSs X g M a ma) (hb : SSs X g M b mb) : SS X g M (.If c a b pos) (sIf mc ma mb) :=
  PS.imp (ps_if hc ha hb) fun D σ H ⟨F0, H0, F, env, z, r, h⟩ => by
    unfold sIf at h
    split at h
    · rename_i z' q
      exact tT.at r.sr q fun F' H' s => iteT ⟨F0, H0, F', env, z', r.step s, h⟩
    · rename_i z' q
      exact tT.at r.sr q fun F' H' s => iteF ⟨F0, H0, F', env, z', r.step s, h⟩
    · exact h.elim
theorem ss_set (i : Nat) {x : Str} {e : Expr} {pos pos' : Pos} {m : EM} (he : EE X g e m) (hN : X.N.Nodup) (hi : X.N[i]? = some x := by rfl) (hx : Loc X.env.scope x := by first | exact Or.inl rfl | exact Or.inr rfl) (hs : swapsWith e (some (.Name x pos')) pos.line X.env = pure false := by rfl)
    (hf : X.fn x = true ∨ X.env.scope.names.lookup x = some .local := by first | exact .inl rfl | exact .inr rfl | assumption) : SS X g M (.Assign [.Name x pos'] e pos) (sSet i m) :=
  PS.imp (ps_set hN hi hx he hs hf) fun D σ H ⟨F0, H0, F, env, z, r, h⟩ => by
    unfold sSet at h
    split at h
    · rename_i d fr z' q
      exact tE.sh r.sr q fun v F' H' s k => h _ F' H' ((r.step s).setSh k)
    · exact h.elim
theorem Rs.valOw {i : Nat} {v : V} {d : D} (r0 : Rs g M F0 H0 F H σ env z) (s : Step g F H F' H' z') (k : Val g H F' H' v d true) : Rs g M F0 H0 F' H' (σ.set i (some v)) (env.set i (.ow d)) z' := by
  obtain ⟨p, e1, n1, n2, n3, o⟩ := k
  subst e1
  refine (r0.step s).setOw n2 n3 o (.inl ?_) fun j d' e1 e2 => ?_
  · cases hq : H0 p with
    | none => rfl
    | some u => exact absurd n1 (r0.ent.there p (by rw [hq]; simp))
  · obtain ⟨_, _, o'⟩ := r0.slotSome e1 e2
    obtain ⟨u, hu⟩ := o'.obj
    rw [n1] at hu; cases hu
theorem ss_setO (i : Nat) {x : Str} {e : Expr} {pos pos' : Pos} {m : EM} (he : EE X g e m) (hN : X.N.Nodup) (hi : X.N[i]? = some x := by rfl) (hx : Loc X.env.scope x := by first | exact Or.inl rfl | exact Or.inr rfl) (hs : swapsWith e (some (.Name x pos')) pos.line X.env = pure false := by rfl)
    (hf : X.fn x = true ∨ X.env.scope.names.lookup x = some .local := by first | exact .inl rfl | exact .inr rfl | assumption) : SS X g M (.Assign [.Name x pos'] e pos) (sSetO i m) :=
  PS.imp (ps_set hN hi hx he hs hf) fun D σ H ⟨F0, H0, F, env, z, r, h⟩ => by
    unfold sSetO at h
    split at h
    · rename_i d z' q
      exact tE.at r.sr q fun v F' H' s k => h _ F' H' (r.valOw s k)
    · rename_i d z' q
      exact tE.at r.sr q fun v F' H' s k => h _ F' H' ((r.step s).setSh k)
    · exact h.elim
/-- name op= e -/
def sAug (i : Nat) (f : D → D → Option (D × Bool)) (m : OM) : SM := fun env z => match env[i]? with
  | some (.sh d) => match m env z with
    | some (e, z') => match f d e with
      | some (r, false) => .nx (env.set i (.sh r)) z'
      | _ => .bad
    | none => .bad
  | _ => .bad
theorem ss_aug (i : Nat) {x : Str} {e : Expr} {op : Operator} {pos pos' : Pos} {m : OM} {f : D → D → Option (D × Bool)} {r0 : R2} (ho : OpR X (inplaceOp op) r0) (hf0 : BinOk g f r0) (he : OE X g e m) (hN : X.N.Nodup) (hi : X.N[i]? = some x := by rfl) (hx : Loc X.env.scope x := by first | exact Or.inl rfl | exact Or.inr rfl)
    (hf : X.fn x = true ∨ X.env.scope.names.lookup x = some .local := by first | exact .inl rfl | exact .inr rfl | assumption) : SS X g M (.AugAssign (.Name x pos') op e pos) (sAug i f m) :=
  PS.imp (ps_aug hN hi hx he (ti := r0) (fun pins s σ H x y v u Q I rx ry q => ho pins s σ H x y v u Q I rx ry q) hf) fun D σ H ⟨F0, H0, F, env, z, r, h⟩ => by
    unfold sAug at h
    split at h
    · rename_i d q
      split at h
      · rename_i e z' q2
        split at h
        · rename_i d' q3
          obtain ⟨v, e1, k⟩ := r.sr.at_ i _ q
          refine ⟨v, e1, tP.at r.sr q2 fun y F1 H1 s1 k1 => ?_⟩
          exact hf0 _ s1.sub s1.cell (.inl (k.same s1.grow)) k1 q3 fun w F2 H2 s2 k2 => h _ F2 H2 ((r.step (s1.trans s2)).setSh k2)
        · exact h.elim
      · exact h.elim
    · exact h.elim
theorem ip_addG (hX : Of X g) : ∃ r, OpR X (inplaceOp .Add) r ∧ BinOk g (fun d e => match d, e with | .int i, .int j => some (.int (i + j), false) | .str x, .str y => if x.length + y.length ≤ lim then some (.str (x ++ y), false) else none | _, _ => none) r := by
  refine ⟨_, iop_add.or iop_add_str, ?_⟩
  intro F H z x y d e d' fr Q s c kx ky hf h
  cases d with
  | int i =>
    cases e with
    | int j =>
      simp only [Option.some.injEq, Prod.mk.injEq] at hf
      obtain ⟨rfl, rfl⟩ := hf
      exact .inl ⟨i, j, kx.int, ky.int, h _ F H (Step.refl s c) (.int _)⟩
    | _ => simp at hf
  | str i =>
    cases e with
    | str j =>
      simp only at hf
      split at hf
      · rename_i hl
        simp only [Option.some.injEq, Prod.mk.injEq] at hf
        obtain ⟨rfl, rfl⟩ := hf
        have hl' : i.length + j.length ≤ sizeLine := by rw [lim_eq]; exact hl
        exact .inr ⟨i, j, kx.str.1, ky.str.1, hl', h _ F H (Step.refl s c) (.str _ (by
          have e : (i ++ j).length = i.length + j.length := by
            show (i.cps ++ j.cps).size = _
            rw [Array.size_append]; rfl
          rw [e]; exact hl'))⟩
      · cases hf
    | _ => simp at hf
  | _ => simp at hf
def dAddI : D → D → Option (D × Bool) := fun d e => match d, e with | .int i, .int j => some (.int (i + j), false) | .str x, .str y => if x.length + y.length ≤ lim then some (.str (x ++ y), false) else none | _, _ => none
def dMulI : D → D → Option (D × Bool) := fun d e => match d, e with | .int i, .int j => if mulOk i j then some (.int (i * j), false) else none | _, _ => none
theorem ip_mulG (hX : Of X g) : ∃ r, OpR X (inplaceOp .Mult) r ∧ BinOk g dMulI r := by
  refine ⟨_, iop_mulG, ?_⟩
  intro F H z x y d e d' fr Q s c kx ky hf h
  cases d with
  | int i =>
    cases e with
    | int j =>
      simp only [dMulI] at hf
      split at hf
      · rename_i hl
        simp only [Option.some.injEq, Prod.mk.injEq] at hf
        obtain ⟨rfl, rfl⟩ := hf
        exact ⟨i, j, kx.int, ky.int, hl, h _ F H (Step.refl s c) (.int _)⟩
      · cases hf
    | _ => simp [dMulI] at hf
  | _ => simp [dMulI] at hf
theorem ip_subG (hX : Of X g) : ∃ r, OpR X (inplaceOp .Sub) r ∧ BinOk g dSub r := by
  refine ⟨_, iop_sub, ?_⟩
  intro F H z x y d e d' fr Q s c kx ky hf h
  cases d with
  | int i =>
    cases e with
    | int j =>
      simp only [dSub, Option.some.injEq, Prod.mk.injEq] at hf
      obtain ⟨rfl, rfl⟩ := hf
      exact ⟨i, j, kx.int, ky.int, h _ F H (Step.refl s c) (.int _)⟩
    | _ => simp [dSub] at hf
  | _ => simp [dSub] at hf
theorem ip_divG (hX : Of X g) : ∃ r, OpR X (inplaceOp .FloorDiv) r ∧ BinOk g dDiv r := by
  refine ⟨_, iop_fdivG, ?_⟩
  intro F H z x y d e d' fr Q s c kx ky hf h
  cases d with
  | int i =>
    cases e with
    | int j =>
      simp only [dDiv] at hf
      split at hf
      · rename_i hl
        simp only [Option.some.injEq, Prod.mk.injEq] at hf
        obtain ⟨rfl, rfl⟩ := hf
        exact ⟨i, j, kx.int, ky.int, hl, h _ F H (Step.refl s c) (.int _)⟩
      · cases hf
    | _ => simp [dDiv] at hf
  | _ => simp [dDiv] at hf
end
end Tw

namespace Tw
open PySem PySem.Spec PyProof.Rows L2

section
variable {g : Gc} {M : List Addr} {F0 H0 F F' H H' : Hp} {σ σ' : L2.St} {env env' : Env'} {z z' : Int} {X : Cx} {D0 : Ends}
/-! ### subscripts, slices, len -/
theorem RepL.atI {vs : List V} {ds : List D} {i : Int} {d : D} (r : RepL g F vs ds) (h : atI ds i = some d) : ∃ v, atI vs i = some v ∧ Rep g F v d := by
  unfold L2.atI at h ⊢
  rw [r.length]
  cases q : ixN ds.length i with
  | none => rw [q] at h; cases h
  | some j =>
    rw [q] at h
    exact r.get h
def IxOk (g : Gc) (f : D → D → Option (D × Bool)) (r : R2) : Prop := BinOk g f r
theorem ix_ok (hX : Of X g) : ∃ r, IxR X r ∧ BinOk g dIx r := by
  refine ⟨_, ix_list.or (ix_tup.or ix_str), ?_⟩
  intro F H z x y d e d' fr Q s c kx ky hf h
  cases d with
  | lst ds =>
    cases e with
    | int j =>
      obtain ⟨w, q1, q2⟩ := omap hf
      cases q2
      obtain ⟨a, vs, ex, h1, h2, h3⟩ := kx.lst s
      obtain ⟨v, e1, e2⟩ := h3.atI q1
      exact .inl ⟨a, vs, j, v, ex, ky.int, .inl (.inl h1), e1, h _ F H (Step.refl s c) e2⟩
    | _ => simp [dIx] at hf
  | kst ds =>
    cases e with
    | int j =>
      obtain ⟨w, q1, q2⟩ := omap hf
      cases q2
      obtain ⟨a, vs, ex, h1, h2, h3⟩ := kx.kst
      obtain ⟨v, e1, e2⟩ := h3.atI q1
      exact .inl ⟨a, vs, j, v, ex, ky.int, by rw [hX.K]; exact SqL.same s h1, e1, h _ F H (Step.refl s c) e2⟩
    | _ => simp [dIx] at hf
  | tup ds =>
    cases e with
    | int j =>
      obtain ⟨w, q1, q2⟩ := omap hf
      cases q2
      obtain ⟨a, vs, ex, h1, h2, h3⟩ := kx.tup
      obtain ⟨v, e1, e2⟩ := h3.atI q1
      exact .inr (.inl ⟨a, vs, j, v, ex, ky.int, by rw [hX.K]; exact SqT.same s h1, e1, h _ F H (Step.refl s c) e2⟩)
    | _ => simp [dIx] at hf
  | str x0 =>
    cases e with
    | int j =>
      obtain ⟨w, q1, q2⟩ := omap hf
      cases q2
      exact .inr (.inr ⟨x0, j, w, kx.str.1, ky.int, kx.str.2, q1, h _ F H (Step.refl s c) (.str _ (by rw [lim_eq]; show 1 ≤ 16777216; omega))⟩)
    | _ => simp [dIx] at hf
  | _ => simp [dIx] at hf
theorem ee_ix {a b : Expr} {pos : Pos} {ma mb : OM} {r : R2} {f : D → D → Option (D × Bool)} (hr : IxR X r) (hf : BinOk g f r) (ha : OE X g a ma) (hb : OE X g b mb) (hs : PlainIx b) : EE X g (.Subscript a b pos) (mBin f ma mb) :=
  PE.imp (pe_ix hr ha hb hs) fun σ H Q ⟨F, env, z, d, fr, z', sr, e, h⟩ => by
    obtain ⟨p, q1, e⟩ := obind e
    obtain ⟨q, q2, e⟩ := obind e
    obtain ⟨w, q3, e⟩ := omap e
    simp only [Prod.mk.injEq] at e
    obtain ⟨rfl, rfl, rfl⟩ := e
    refine tP.at sr q1 fun x F1 H1 s1 k1 => ?_
    refine tP.at (sr.step s1) q2 fun y F2 H2 s2 k2 => ?_
    exact hf Q s2.sub s2.cell (k1.step s2) k2 q3 fun v F3 H3 s3 k3 => h v F3 H3 ((s1.trans s2).trans s3) (k3.back (s1.trans s2))
def cutD {α : Type} (xs : List α) (lo hi : Option Int) : List α := (xs.drop (HT.sIx xs.length 0 lo)).take (HT.sIx xs.length xs.length hi - HT.sIx xs.length 0 lo)
abbrev PM := Env' → Int → Option (Option Int × Int)
def pNo : PM := fun _ z => some (none, z)
def pSo (m : OM) : PM := fun env z => (m env z).bind fun p => match p.1 with
  | .int i => some (some i, p.2)
  | _ => none
def dCut : D → Option Int → Option Int → Option (D × Bool)
  | .tup xs, lo, hi => some (.tup (cutD xs lo hi), false)
  | .lst xs, lo, hi => some (.lst (cutD xs lo hi), true)
  | .kst xs, lo, hi => some (.lst (cutD xs lo hi), true)
  | .str x, lo, hi => some (.str (cutS x lo hi), false)
  | _, _, _ => none
def eCut (a : OM) (lo hi : PM) : EM := fun env z => (a env z).bind fun p => (lo env p.2).bind fun l => (hi env l.2).bind fun u => (dCut p.1 l.1 u.1).map fun r => (r.1, r.2, u.2)
def tPo (g : Gc) (m : PM) : TO := fun σ H Q => ∃ F env z o z', SR g F H σ env z ∧ m env z = some (o, z') ∧ ∀ F' H', Step g F H F' H' z' → Q o H'
def OPs (X : Cx) (g : Gc) (e : Option Expr) (m : PM) : Prop := PO X e (tPo g m)
theorem PO.imp {e : Option Expr} {t t' : TO} (h : PO X e t) (i : ∀ σ H Q, t' σ H Q → t σ H Q) : PO X e t' := ⟨fun pins s σ H Q I q => h.run pins s σ H Q I (i σ H Q q)⟩
theorem po_no : OPs X g none pNo := PO.imp po_none fun σ H Q ⟨F, env, z, o, z', sr, e, h⟩ => by
  simp only [pNo, Option.some.injEq, Prod.mk.injEq] at e
  obtain ⟨rfl, rfl⟩ := e
  exact h F H sr.refl
theorem po_so {e : Expr} {m : OM} (he : OE X g e m) : OPs X g (some e) (pSo m) := PO.imp (po_some he) fun σ H Q ⟨F, env, z, o, z', sr, e, h⟩ => by
  obtain ⟨⟨d, z1⟩, q1, e⟩ := obind e
  cases d with
  | int i =>
    simp only [Option.some.injEq, Prod.mk.injEq] at e
    obtain ⟨rfl, rfl⟩ := e
    exact tP.at sr q1 fun x F1 H1 s1 k1 => ⟨i, k1.int, h F1 H1 s1⟩
  | _ => simp at e
theorem RepL.cut {vs : List V} {ds : List D} (r : RepL g F vs ds) (lo hi : Option Int) : RepL g F (cutV vs lo hi) (cutD ds lo hi) := by
  unfold cutV cutD
  rw [r.length]
  exact (r.drop _).take _
theorem ee_cut {e : Expr} {lo hi : Option Expr} {p2 pos : Pos} {m : OM} {ml mh : PM} (hX : Of X g) (he : OE X g e m) (hl : OPs X g lo ml) (hu : OPs X g hi mh) : EE X g (.Subscript e (.Slice lo hi none p2) pos) (eCut m ml mh) :=
  PE.imp (pe_slice (sl_list.or (sl_tupA.or sl_str)) he hl hu) fun σ H Q ⟨F, env, z, d, fr, z', sr, e, h⟩ => by
    obtain ⟨p, q1, e⟩ := obind e
    obtain ⟨l, q2, e⟩ := obind e
    obtain ⟨u, q3, e⟩ := obind e
    obtain ⟨w, q4, e⟩ := omap e
    simp only [Prod.mk.injEq] at e
    obtain ⟨rfl, rfl, rfl⟩ := e
    refine tP.at sr q1 fun x F1 H1 s1 k1 => ?_
    refine ⟨F1, env, p.2, l.1, l.2, sr.step s1, q2, fun F2 H2 s2 => ?_⟩
    refine ⟨F2, env, l.2, u.1, u.2, (sr.step s1).step s2, q3, fun F3 H3 s3 => ?_⟩
    have st := (s1.trans s2).trans s3
    have k3 := (k1.step s2).step s3
    obtain ⟨d0, z0⟩ := p
    cases d0 with
    | tup ds =>
      simp only [dCut, Option.some.injEq] at q4
      subst q4
      obtain ⟨a, vs, ex, h1, h2, h3⟩ := k3.tup
      have hz : (cutV vs l.1 u.1).length ≤ sizeLine := Nat.le_trans (cutV_length _ _ _) h2
      refine .inr (.inl ⟨a, vs, ex, by rw [hX.K]; exact SqT.same st.sub h1, fun hw => ?_, fun _ p hp => ?_⟩)
      · have ew : cutD ds l.1 u.1 = ds := by
          unfold cutD
          rw [← h3.length, hw.1, hw.2, List.drop_zero, Nat.sub_zero, h3.length, List.take_length]
        rw [ew] at h
        exact h _ F3 H3 st (.tup h1 h2 h3)
      · exact h _ _ _ (st.trans (Step.newF st.sub st.cell hp)) (Step.tupVal st.sub hp hz (h3.cut _ _))
    | lst ds =>
      simp only [dCut, Option.some.injEq] at q4
      subst q4
      obtain ⟨a, vs, ex, h1, h2, h3⟩ := k3.lst st.sub
      have hz : (cutV vs l.1 u.1).length ≤ sizeLine := Nat.le_trans (cutV_length _ _ _) h2
      exact .inl ⟨a, vs, ex, .inl (.inl h1), fun p hp => h _ _ _ (st.trans (Step.new st.sub st.cell hp)) ((Step.freshVal st.sub st.cell hp hz (h3.cut _ _)).back st)⟩
    | kst ds =>
      simp only [dCut, Option.some.injEq] at q4
      subst q4
      obtain ⟨a, vs, ex, h1, h2, h3⟩ := k3.kst
      have hz : (cutV vs l.1 u.1).length ≤ sizeLine := Nat.le_trans (cutV_length _ _ _) h2
      exact .inl ⟨a, vs, ex, by rw [hX.K]; exact SqL.same st.sub h1, fun p hp => h _ _ _ (st.trans (Step.new st.sub st.cell hp)) ((Step.freshVal st.sub st.cell hp hz (h3.cut _ _)).back st)⟩
    | str x0 =>
      simp only [dCut, Option.some.injEq] at q4
      subst q4
      exact .inr (.inr ⟨x0, k3.str.1, k3.str.2, h _ F3 H3 st (.str _ (Nat.le_trans (cutS_length _ _ _) k3.str.2))⟩)
    | _ => simp [dCut] at q4
/-- arguments that are looked at -/
inductive PkL (g : Gc) (F H : Hp) : List V → List D → Prop
  | nil : PkL g F H [] []
  | cons {v : V} {d : D} {vs : List V} {ds : List D} : Pk g F H v d → PkL g F H vs ds → PkL g F H (v :: vs) (d :: ds)
theorem PkL.step {vs : List V} {ds : List D} (r : PkL g F H vs ds) (s : Step g F H F' H' z') : PkL g F' H' vs ds := by
  induction r with
  | nil => exact .nil
  | cons k _ ih => exact .cons (k.step s) ih
def tAo (g : Gc) (m : AM) : TA := fun σ H Q => ∃ F env z ds z', SR g F H σ env z ∧ m env z = some (ds, z') ∧ ∀ vs F' H', Step g F H F' H' z' → PkL g F' H' vs ds → Q vs H'
def AO (X : Cx) (g : Gc) (es : List Expr) (m : AM) : Prop := PA X es (tAo g m)
def aConsO (a : OM) (r : AM) : AM := fun env z => (a env z).bind fun p => (r env p.2).map fun q => (p.1 :: q.1, q.2)
theorem ao_nil : AO X g [] aNil := PA.imp pa_nil fun σ H Q ⟨F, env, z, ds, z', sr, e, h⟩ => by
  simp only [aNil, Option.some.injEq, Prod.mk.injEq] at e
  obtain ⟨rfl, rfl⟩ := e
  exact h [] F H sr.refl .nil
theorem ao_cons {e : Expr} {es : List Expr} {m : OM} {ms : AM} (ha : OE X g e m) (hr : AO X g es ms) (hs : starEach (e :: es) X.env = (false, eval e X.env) :: starEach es X.env := by rfl) : AO X g (e :: es) (aConsO m ms) :=
  PA.imp (pa_cons ha hr hs) fun σ H Q ⟨F, env, z, ds, z', sr, e, h⟩ => by
    obtain ⟨⟨d, z1⟩, q1, e⟩ := obind e
    obtain ⟨⟨ds', z2⟩, q2, e⟩ := omap e
    simp only [Prod.mk.injEq] at e
    obtain ⟨rfl, rfl⟩ := e
    refine tP.at sr q1 fun v F1 H1 s1 k1 => ?_
    refine ⟨F1, env, z1, ds', z2, sr.step s1, q2, fun vs F2 H2 s2 k2 => ?_⟩
    exact h _ F2 H2 (s1.trans s2) (.cons (k1.step s2) k2)
/-- a built-in, by values -/
def BltOk (g : Gc) (f : List D → Option (D × Bool)) (r : List V → Hp → VK → Prop) : Prop :=
  ∀ {F H : Hp} {z : Int} {vs : List V} {ds : List D} {d' : D} {fr : Bool} (Q : VK), Same F H → CellOk g F H z → PkL g F H vs ds → f ds = some (d', fr) →
    (∀ v F' H', Step g F H F' H' z → Val g H F' H' v d' fr → Q v H') → r vs H Q
def eBlt (f : List D → Option (D × Bool)) (a : AM) : EM := fun env z => (a env z).bind fun p => (f p.1).map fun r => (r.1, r.2, p.2)
theorem ee_bltOf {e : Expr} {es : List Expr} {r : List V → Hp → VK → Prop} {f : List D → Option (D × Bool)} {m : AM} {E : Expr} (hp : ∀ t, PA X (e :: es) t → PE X E (tCB r t)) (hf : BltOk g f r) (ha : AO X g (e :: es) m) : EE X g E (eBlt f m) :=
  PE.imp (hp _ ha) fun σ H Q ⟨F, env, z, d, fr, z', sr, e, h⟩ => by
    obtain ⟨⟨ds, z1⟩, q1, e⟩ := obind e
    obtain ⟨w, q2, e⟩ := omap e
    simp only [Prod.mk.injEq] at e
    obtain ⟨rfl, rfl, rfl⟩ := e
    refine ⟨F, env, z, ds, z1, sr, q1, fun vs F1 H1 s1 k1 => ?_⟩
    exact hf Q s1.sub s1.cell k1 q2 fun v F2 H2 s2 k2 => h v F2 H2 (s1.trans s2) (k2.back s1)
def dLen : List D → Option (D × Bool)
  | [.lst xs] => some (.int xs.length, false)
  | [.kst xs] => some (.int xs.length, false)
  | [.tup xs] => some (.int xs.length, false)
  | [.str x] => some (.int x.length, false)
  | _ => none
theorem PkL.one {v : List V} {d : D} (k : PkL g F H v [d]) : ∃ x, v = [x] ∧ Pk g F H x d := by
  cases k with | cons a b => cases b; exact ⟨_, rfl, a⟩
theorem PkL.two {v : List V} {d e : D} (k : PkL g F H v [d, e]) : ∃ x y, v = [x, y] ∧ Pk g F H x d ∧ Pk g F H y e := by
  cases k with | cons a b => cases b with | cons c d => cases d; exact ⟨_, _, rfl, a, c⟩
theorem blt_len (hX : Of X g) : ∃ r, CallR X (.builtin "len") r ∧ BltOk g dLen r := by
  refine ⟨_, call_len_seq.or call_len_str, ?_⟩
  intro F H z vs ds d' fr Q s c k hf h
  match ds, hf with
  | [.lst xs], hf =>
    simp only [dLen, Option.some.injEq, Prod.mk.injEq] at hf
    obtain ⟨rfl, rfl⟩ := hf
    obtain ⟨x, rfl, kx⟩ := k.one
    obtain ⟨a, vs, rfl, h1, h2, h3⟩ := kx.lst s
    exact .inl ⟨a, vs, rfl, .inl (.inl (.inl h1)), by rw [h3.length]; exact h _ F H (Step.refl s c) (.int _)⟩
  | [.kst xs], hf =>
    simp only [dLen, Option.some.injEq, Prod.mk.injEq] at hf
    obtain ⟨rfl, rfl⟩ := hf
    obtain ⟨x, rfl, kx⟩ := k.one
    obtain ⟨a, vs, rfl, h1, h2, h3⟩ := kx.kst
    exact .inl ⟨a, vs, rfl, .inl (by rw [hX.K]; exact SqL.same s h1), by rw [h3.length]; exact h _ F H (Step.refl s c) (.int _)⟩
  | [.tup xs], hf =>
    simp only [dLen, Option.some.injEq, Prod.mk.injEq] at hf
    obtain ⟨rfl, rfl⟩ := hf
    obtain ⟨x, rfl, kx⟩ := k.one
    obtain ⟨a, vs, rfl, h1, h2, h3⟩ := kx.tup
    exact .inl ⟨a, vs, rfl, .inr (by rw [hX.K]; exact SqT.same s h1), by rw [h3.length]; exact h _ F H (Step.refl s c) (.int _)⟩
  | [.str x0], hf =>
    simp only [dLen, Option.some.injEq, Prod.mk.injEq] at hf
    obtain ⟨rfl, rfl⟩ := hf
    obtain ⟨x, rfl, kx⟩ := k.one
    exact .inr ⟨x0, by rw [kx.str.1], kx.str.2, h _ F H (Step.refl s c) (.int _)⟩
/-- f(x, ..), f a built-in function; a built-in class -/
theorem ee_blt {x : Str} {id : String} {e : Expr} {es : List Expr} {p pos : Pos} {r : List V → Hp → VK → Prop} {f : List D → Option (D × Bool)} {m : AM} (hc : CallR X (.builtin id) r) (hf : BltOk g f r) (hX : Of X g) (hm : g.mg x = none) (hv : bootBuiltins x = some (.builtin id)) (ha : AO X g (e :: es) m) (hg : Gl X x := by rfl)
    (hn : x ≠ "__name__" := by decide) (hdb : (x == ("__debug__" : Str)) = false := by decide)
    (he : starEach (e :: es) X.env = (false, eval e X.env) :: starEach es X.env := by rfl) (hpl : (backTo pos (starEach es X.env)).any (·.1) = false := by rfl) : EE X g (.Call (.Name x p) (e :: es) [] pos) (eBlt f m) :=
  ee_bltOf (fun t ht => pe_callB hc hg (by rw [hX.mg]; exact hm) hv ht hn hdb he hpl) hf ha
theorem ee_blt_ty {x : Str} {T : String} {e : Expr} {es : List Expr} {p pos : Pos} {r : List V → Hp → VK → Prop} {f : List D → Option (D × Bool)} {m : AM} (hc : CallR X (.type T) r) (hf : BltOk g f r) (hX : Of X g) (hm : g.mg x = none) (hv : bootBuiltins x = some (.type T)) (ha : AO X g (e :: es) m) (hg : Gl X x := by rfl)
    (hn : x ≠ "__name__" := by decide) (hdb : (x == ("__debug__" : Str)) = false := by decide)
    (he : starEach (e :: es) X.env = (false, eval e X.env) :: starEach es X.env := by rfl) (hpl : (backTo pos (starEach es X.env)).any (·.1) = false := by rfl) : EE X g (.Call (.Name x p) (e :: es) [] pos) (eBlt f m) :=
  ee_bltOf (fun t ht => pe_callTy hc hg (by rw [hX.mg]; exact hm) hv ht hn hdb he hpl) hf ha

/-! ### what is walked -/
def Drv (g : Gc) (kp : Bool) (J : It) (ds : List D) (F1 H1 : Hp) : Prop :=
  ∀ F H, Same F1 F → Same F H → (kp = true → ∀ a o, g.cl ≠ some a → H1 a = some o → H a = some o) →
    (∀ i d, ds[i]? = some d → J.go i H ∧ ∀ x H2, J.yld i H x H2 → ∃ F2, (∀ z, CellOk g F H z → Step g F H F2 H2 z) ∧ Rep g F2 x d) ∧ (∀ i, ds.length ≤ i → J.stop i H)
abbrev IM := Env' → Int → Option (List D × Int)
def tI (g : Gc) (kp : Bool) (m : IM) : TI := fun σ H R => ∃ F env z ds z', SR g F H σ env z ∧ m env z = some (ds, z') ∧ ∀ J F' H', Step g F H F' H' z' → ds.length ≤ lim → Drv g kp J ds F' H' → R J H'
def IE (X : Cx) (g : Gc) (kp : Bool) (tg e : Expr) (m : IM) : Prop := PI X tg e (tI g kp m)
theorem Drv.weak {J : It} {ds : List D} {kp : Bool} (h : Drv g false J ds F H) : Drv g kp J ds F H := fun F' H' s1 s2 _ => h F' H' s1 s2 (fun q => nomatch q)
/-- a list or tuple; looked at -/
def iSeq (a : OM) : IM := fun env z => (a env z).bind fun p => match p.1 with
  | .lst xs => some (xs, p.2)
  | .kst xs => some (xs, p.2)
  | .tup xs => some (xs, p.2)
  | _ => none
theorem drv_list {a : Addr} {vs : List V} {ds : List D} {kp : Bool} (hq : ∀ F' H', Same F F' → Same F' H' → (kp = true → ∀ a o, g.cl ≠ some a → H a = some o → H' a = some o) → SqL g.K H' a vs) (r : RepL g F vs ds) : Drv g kp (Itl g.K a) ds F H := by
  intro F' H' s1 s2 kk
  have q := hq F' H' s1 s2 kk
  refine ⟨fun i d e => ?_, fun i e => ⟨vs, q, by rw [r.length]; exact e⟩⟩
  obtain ⟨v, h1, h2⟩ := r.get e
  refine ⟨⟨vs, v, q, h1⟩, fun x H2 y => ?_⟩
  obtain ⟨rfl, y⟩ := y
  have := y vs q
  rw [h1] at this
  cases this
  exact ⟨F', fun z c => Step.refl s2 c, h2.same s1⟩
theorem drv_tup {a : Addr} {vs : List V} {ds : List D} {kp : Bool} (hq : SqT g.K F a vs) (r : RepL g F vs ds) : Drv g kp (Itt g.K a) ds F H := by
  intro F' H' s1 s2 kk
  have q : SqT g.K H' a vs := SqT.same (s1.trans s2) hq
  refine ⟨fun i d e => ?_, fun i e => ⟨vs, q, by rw [r.length]; exact e⟩⟩
  obtain ⟨v, h1, h2⟩ := r.get e
  refine ⟨⟨vs, v, q, h1⟩, fun x H2 y => ?_⟩
  obtain ⟨rfl, y⟩ := y
  have := y vs q
  rw [h1] at this
  cases this
  exact ⟨F', fun z c => Step.refl s2 c, h2.same s1⟩
/-- a list, or a tuple: two forms, by what the operand is -/
theorem pi_or {tg e : Expr} {t1 t2 : TI} (pe : ∀ (t : TE), PE X e t → True) (h1 : PI X tg e t1) (h2 : PI X tg e t2) : PI X tg e (fun σ H R => t1 σ H R ∨ t2 σ H R) := by
  refine ⟨fun pins s σ H R I h => ?_⟩
  rcases h with h | h
  · exact h1.run pins s σ H R I h
  · exact h2.run pins s σ H R I h
end
end Tw

namespace Tw
open PySem PySem.Spec PyProof.Rows L2

section
variable {g : Gc} {M : List Addr} {F0 H0 F F' H H' : Hp} {σ σ' : L2.St} {env env' : Env'} {z z' : Int} {X : Cx} {D0 : Ends}
theorem ie_seq {tg e : Expr} {m : OM} (hX : Of X g) (he : OE X g e m) : IE X g true tg e (iSeq m) :=
  PI.imp (pi_or (fun _ _ => trivial) (pi_list he) (pi_tup he)) fun σ H R ⟨F, env, z, ds, z', sr, e, h⟩ => by
    obtain ⟨⟨d, z1⟩, q1, e⟩ := obind e
    cases d with
    | lst xs =>
      simp only [Option.some.injEq, Prod.mk.injEq] at e
      obtain ⟨rfl, rfl⟩ := e
      refine .inl (tP.at sr q1 fun v F1 H1 s1 k1 => ?_)
      rw [hX.K]
      rcases k1 with k1 | ⟨p, e1, n, c, o⟩
      · cases k1 with
        | lst h1 h2 h3 => exact ⟨_, rfl, ⟨_, .inl (.inl (s1.sub _ _ h1))⟩, h _ F1 H1 s1 (by rw [← h3.length, ← lim_eq]; exact h2) (drv_list (fun F' H' a b _ => .inl (.inl (b _ _ (a _ _ h1)))) h3)⟩
      · cases o with
        | lst h1 h2 h3 => exact ⟨p, e1, ⟨_, .inl (.inl h1)⟩, h _ F1 H1 s1 (by rw [← h3.length, ← lim_eq]; exact h2) (drv_list (fun F' H' a b q => .inl (.inl (q rfl _ _ c h1))) h3)⟩
    | kst xs =>
      simp only [Option.some.injEq, Prod.mk.injEq] at e
      obtain ⟨rfl, rfl⟩ := e
      refine .inl (tP.at sr q1 fun v F1 H1 s1 k1 => ?_)
      rw [hX.K]
      obtain ⟨a, vs, e1, h1, h2, h3⟩ := k1.kst
      exact ⟨a, e1, ⟨_, SqL.same s1.sub h1⟩, h _ F1 H1 s1 (by rw [← h3.length, ← lim_eq]; exact h2) (drv_list (fun F' H' a b _ => SqL.same (a.trans b) h1) h3)⟩
    | tup xs =>
      simp only [Option.some.injEq, Prod.mk.injEq] at e
      obtain ⟨rfl, rfl⟩ := e
      refine .inr (tP.at sr q1 fun v F1 H1 s1 k1 => ?_)
      rw [hX.K]
      obtain ⟨a, vs, e1, h1, h2, h3⟩ := k1.tup
      exact ⟨a, e1, ⟨_, SqT.same s1.sub h1⟩, h _ F1 H1 s1 (by rw [← h3.length, ← lim_eq]; exact h2) (drv_tup h1 h3)⟩
    | _ => simp at e
theorem ie_seqF {tg e : Expr} {m : EM} (hX : Of X g) (he : EE X g e m) : IE X g false tg e (iSeq (oE m)) :=
  PI.imp (pi_or (fun _ _ => trivial) (pi_list he) (pi_tup he)) fun σ H R ⟨F, env, z, ds, z', sr, e, h⟩ => by
    obtain ⟨⟨d, z1⟩, q0, e⟩ := obind e
    obtain ⟨⟨d0, fr, z0⟩, q1, q2⟩ := omap q0
    simp only [Prod.mk.injEq] at q2
    obtain ⟨rfl, rfl⟩ := q2
    cases d0 with
    | lst xs =>
      simp only [Option.some.injEq, Prod.mk.injEq] at e
      obtain ⟨rfl, rfl⟩ := e
      refine .inl (tE.sh sr q1 fun v F1 H1 s1 k1 => ?_)
      rw [hX.K]
      cases k1 with
      | lst h1 h2 h3 => exact ⟨_, rfl, ⟨_, .inl (.inl (s1.sub _ _ h1))⟩, h _ F1 H1 s1 (by rw [← h3.length, ← lim_eq]; exact h2) (drv_list (fun F' H' a b _ => .inl (.inl (b _ _ (a _ _ h1)))) h3)⟩
    | kst xs =>
      simp only [Option.some.injEq, Prod.mk.injEq] at e
      obtain ⟨rfl, rfl⟩ := e
      refine .inl (tE.sh sr q1 fun v F1 H1 s1 k1 => ?_)
      rw [hX.K]
      cases k1 with
      | kst h1 h2 h3 => exact ⟨_, rfl, ⟨_, SqL.same s1.sub h1⟩, h _ F1 H1 s1 (by rw [← h3.length, ← lim_eq]; exact h2) (drv_list (fun F' H' a b _ => SqL.same (a.trans b) h1) h3)⟩
    | tup xs =>
      simp only [Option.some.injEq, Prod.mk.injEq] at e
      obtain ⟨rfl, rfl⟩ := e
      refine .inr (tE.sh sr q1 fun v F1 H1 s1 k1 => ?_)
      rw [hX.K]
      cases k1 with
      | tup h1 h2 h3 => exact ⟨_, rfl, ⟨_, SqT.same s1.sub h1⟩, h _ F1 H1 s1 (by rw [← h3.length, ← lim_eq]; exact h2) (drv_tup h1 h3)⟩
    | _ => simp at e
/-- range -/
def rngD (lo : Int) (n : Nat) : List D := (List.range n).map fun k => .int (lo + (k : Nat))
def rngOk (lo hi : Int) : Bool := decide (-4611686018427387904 ≤ lo) && decide (lo < 4611686018427387904) && decide (-4611686018427387904 ≤ hi) && decide (hi < 4611686018427387904) && decide ((hi - lo).toNat ≤ lim)
def iRg1 (a : AM) : IM := fun env z => (a env z).bind fun p => match p.1 with
  | [.int j] => if rngOk 0 j then some (rngD 0 j.toNat, p.2) else none
  | _ => none
def iRg2 (a : AM) : IM := fun env z => (a env z).bind fun p => match p.1 with
  | [.int i, .int j] => if rngOk i j then some (rngD i (j - i).toNat, p.2) else none
  | _ => none
theorem rng_get {lo : Int} {n i : Nat} {d : D} (h : (rngD lo n)[i]? = some d) : i < n ∧ d = .int (lo + (i : Nat)) := by
  unfold rngD at h
  rw [List.getElem?_map] at h
  obtain ⟨k, h1, h2⟩ := omap h
  have hi : i < n := by
    have := (List.getElem?_eq_some_iff.mp h1).1
    simpa using this
  rw [List.getElem?_range hi] at h1
  cases h1
  exact ⟨hi, h2.symm⟩
theorem rng_len {lo : Int} {n : Nat} : (rngD lo n).length = n := by unfold rngD; simp
theorem drv_rng {lo : Int} {n : Nat} {kp : Bool} : Drv g kp (Itr lo n) (rngD lo n) F H := by
  intro F' H' s1 s2 kk
  refine ⟨fun i d e => ?_, fun i e => by rw [rng_len] at e; exact e⟩
  obtain ⟨hi, rfl⟩ := rng_get e
  refine ⟨hi, fun x H2 y => ?_⟩
  obtain ⟨rfl, rfl⟩ := y
  exact ⟨F', fun z c => Step.refl s2 c, .int _⟩
theorem ie_rg1 {tg a : Expr} {p pos : Pos} {m : AM} {kp : Bool} (hX : Of X g) (hm : g.mg "range" = none) (ha : AE X g [a] m) (hg : Gl X "range" := by rfl) (hs : starEach [a] X.env = [(false, eval a X.env)] := by rfl) : IE X g kp tg (.Call (.Name "range" p) [a] [] pos) (iRg1 m) :=
  PI.imp (pi_range1 hg (by rw [hX.mg]; exact hm) ha hs) fun σ H R ⟨F, env, z, ds, z', sr, e, h⟩ => by
    obtain ⟨⟨ds0, z1⟩, q1, e⟩ := obind e
    match ds0, q1, e with
    | [.int j], q1, e =>
      simp only at e
      split at e
      · rename_i hl
        simp only [Option.some.injEq, Prod.mk.injEq] at e
        obtain ⟨rfl, rfl⟩ := e
        unfold rngOk at hl
        simp only [Bool.and_eq_true, decide_eq_true_eq] at hl
        refine tAr.at sr q1 fun vs F1 H1 s1 k1 => ?_
        cases k1 with | cons a b => cases b; cases a; exact ⟨j, rfl, by omega, by omega, h _ F1 H1 s1 (by rw [rng_len]; have := hl.2; omega) drv_rng⟩
      · cases e
theorem ie_rg2 {tg a b : Expr} {p pos : Pos} {m : AM} {kp : Bool} (hX : Of X g) (hm : g.mg "range" = none) (ha : AE X g [a, b] m) (hg : Gl X "range" := by rfl) (hs : starEach [a, b] X.env = [(false, eval a X.env), (false, eval b X.env)] := by rfl) (hs2 : starEach [b] X.env = [(false, eval b X.env)] := by rfl) :
    IE X g kp tg (.Call (.Name "range" p) [a, b] [] pos) (iRg2 m) :=
  PI.imp (pi_range2 hg (by rw [hX.mg]; exact hm) ha hs hs2) fun σ H R ⟨F, env, z, ds, z', sr, e, h⟩ => by
    obtain ⟨⟨ds0, z1⟩, q1, e⟩ := obind e
    match ds0, q1, e with
    | [.int i, .int j], q1, e =>
      simp only at e
      split at e
      · rename_i hl
        simp only [Option.some.injEq, Prod.mk.injEq] at e
        obtain ⟨rfl, rfl⟩ := e
        unfold rngOk at hl
        simp only [Bool.and_eq_true, decide_eq_true_eq] at hl
        refine tAr.at sr q1 fun vs F1 H1 s1 k1 => ?_
        cases k1 with | cons a b => cases b with | cons b c => cases c; cases a; cases b; exact ⟨i, j, rfl, ⟨by omega, by omega, by omega, by omega⟩, h _ F1 H1 s1 (by rw [rng_len]; exact hl.2) drv_rng⟩
      · cases e
/-- a text, sign by sign -/
def strD (x : Str) : List D := x.cps.toList.map fun c => .str ⟨#[c]⟩
def iStr' (a : OM) : IM := fun env z => (a env z).bind fun p => match p.1 with
  | .str x => some (strD x, p.2)
  | _ => none
theorem ie_str {tg e : Expr} {m : OM} {kp : Bool} (he : OE X g e m) : IE X g kp tg e (iStr' m) :=
  PI.imp (pi_str he) fun σ H R ⟨F, env, z, ds, z', sr, e, h⟩ => by
    obtain ⟨⟨d, z1⟩, q1, e⟩ := obind e
    cases d with
    | str x =>
      simp only [Option.some.injEq, Prod.mk.injEq] at e
      obtain ⟨rfl, rfl⟩ := e
      refine tP.at sr q1 fun v F1 H1 s1 k1 => ?_
      have hlen : (strD x).length = x.cps.size := by unfold strD; simp
      refine ⟨x, k1.str.1, h _ F1 H1 s1 (by rw [hlen, ← lim_eq]; exact k1.str.2) fun F' H' s1 s2 kk => ⟨fun i d e => ?_, fun i e => by rw [hlen] at e; exact e⟩⟩
      unfold strD at e
      rw [List.getElem?_map] at e
      obtain ⟨c, h1, rfl⟩ := omap e
      have hc : x.cps[i]? = some c := by simpa using h1
      refine ⟨(Array.getElem?_eq_some_iff.mp hc).1, fun v H2 y => ?_⟩
      obtain ⟨rfl, c', h3, rfl⟩ := y
      rw [hc] at h3; cases h3
      exact ⟨F', fun z c => Step.refl s2 c, .str _ (by rw [lim_eq]; show 1 ≤ 16777216; omega)⟩
    | _ => simp at e

/-! ### targets -/
abbrev BM := D → Env' → Option Env'
/-- what a target's store leaves: the slots at ts may have changed, nothing is owned that was not -/
structure Sto (g : Gc) (F H : Hp) (ts : List Nat) (σ : L2.St) (env : Env') (z : Int) (σ' : L2.St) (env' : Env') : Prop where
  sr : SR g F H σ' env' z
  len : σ'.length = σ.length
  els : ∀ j, j ∉ ts → σ'[j]? = σ[j]?
  own : ∀ (j : Nat) (d : D), env'[j]? = some (.ow d) → env[j]? = some (.ow d) ∧ σ'[j]? = σ[j]?
def tG (g : Gc) (ts : List Nat) (b : BM) : TG := fun v σ H Q => ∃ F env z d env', SR g F H σ env z ∧ Rep g F v d ∧ b d env = some env' ∧ ∀ σ', Sto g F H ts σ env z σ' env' → Q σ' H
def GE (X : Cx) (g : Gc) (tg : Expr) (ts : List Nat) (b : BM) : Prop := PG X tg (tG g ts b)
abbrev BMs := List D → Env' → Option Env'
def tGs' (g : Gc) (ts : List Nat) (b : BMs) : TGs := fun vs σ H Q => ∃ F env z ds env', SR g F H σ env z ∧ RepL g F vs ds ∧ b ds env = some env' ∧ ∀ σ', Sto g F H ts σ env z σ' env' → Q σ' H
def GEs (X : Cx) (g : Gc) (tgs : List Expr) (ts : List Nat) (b : BMs) : Prop := PGs X tgs (tGs' g ts b)
theorem PGs.imp {es : List Expr} {t t' : TGs} (h : PGs X es t) (i : ∀ v σ H Q, t' v σ H Q → t v σ H Q) : PGs X es t' := ⟨fun pins s σ H v u Q I r q => h.run pins s σ H v u Q I r (i v σ H Q q)⟩
def bName (i : Nat) : BM := fun d env => some (env.set i (.sh d))
def bsNil : BMs := fun ds env => match ds with
  | [] => some env
  | _ => none
def bsCons (b : BM) (r : BMs) : BMs := fun ds env => match ds with
  | d :: ds => (b d env).bind (r ds)
  | [] => none
def bTup (n : Nat) (b : BMs) : BM := fun d env => match d with
  | .tup ds => if ds.length = n then b ds env else none
  | _ => none
theorem Sto.refl (r : SR g F H σ env z) (ts : List Nat) : Sto g F H ts σ env z σ env := ⟨r, rfl, fun _ _ => rfl, fun _ _ e => ⟨e, rfl⟩⟩
theorem Sto.set {v : V} {d : D} {i : Nat} {ts : List Nat} (r : SR g F H σ env z) (k : Rep g F v d) (hi : i ∈ ts) : Sto g F H ts σ env z (σ.set i (some v)) (env.set i (.sh d)) := by
  refine ⟨r.setSh k, by rw [List.length_set], fun j hj => List.getElem?_set_ne (fun e => hj (by rw [← e]; exact hi)), fun j d1 e1 => ?_⟩
  have nj : i ≠ j := fun q => by
    subst q
    rw [List.getElem?_set] at e1
    split at e1
    · split at e1 <;> cases e1
    · contradiction
  rw [List.getElem?_set_ne nj] at e1
  exact ⟨e1, List.getElem?_set_ne nj⟩
theorem Sto.trans {σ2 : L2.St} {env2 : Env'} {ts ts' : List Nat} (a : Sto g F H ts σ env z σ' env') (b : Sto g F H ts' σ' env' z σ2 env2) : Sto g F H (ts ++ ts') σ env z σ2 env2 :=
  ⟨b.sr, b.len.trans a.len, fun j hj => by
    rw [List.mem_append] at hj
    exact (b.els j fun q => hj (.inr q)).trans (a.els j fun q => hj (.inl q)), fun j d e => by
    obtain ⟨e1, e2⟩ := b.own j d e
    obtain ⟨e3, e4⟩ := a.own j d e1
    exact ⟨e3, e2.trans e4⟩⟩
theorem ge_name (i : Nat) {x : Str} {pos : Pos} (hN : X.N.Nodup) (hi : X.N[i]? = some x := by rfl) (hx : Loc X.env.scope x := by first | exact Or.inl rfl | exact Or.inr rfl) (hf : X.fn x = true ∨ X.env.scope.names.lookup x = some .local := by first | exact .inl rfl | exact .inr rfl | assumption) : GE X g (.Name x pos) [i] (bName i) :=
  PG.imp (pg_name hN hi hx hf) fun v σ H Q ⟨F, env, z, d, env', sr, k, e, h⟩ => by
    cases e
    exact h _ (Sto.set sr k (by simp))
theorem ges_nil : GEs X g [] [] bsNil := PGs.imp pgs_nil fun vs σ H Q ⟨F, env, z, ds, env', sr, k, e, h⟩ => by
  cases ds with
  | nil => cases e; cases k; exact ⟨rfl, h σ (Sto.refl sr _)⟩
  | cons d ds => cases e
theorem ges_cons {e : Expr} {es : List Expr} {ts ts' : List Nat} {b : BM} {r : BMs} (h1 : GE X g e ts b) (h2 : GEs X g es ts' r) (hs : (assignEach (e :: es) X.env).map (·.2) = assign e X.env :: (assignEach es X.env).map (·.2) := by rfl) : GEs X g (e :: es) (ts ++ ts') (bsCons b r) :=
  PGs.imp (pgs_cons h1 h2 hs) fun vs σ H Q ⟨F, env, z, ds, env', sr, k, e, h⟩ => by
    cases k with
    | nil => cases e
    | cons k1 k2 =>
      obtain ⟨env1, e1, e2⟩ := obind e
      refine ⟨_, _, rfl, F, env, z, _, env1, sr, k1, e1, fun σ1 st1 => ?_⟩
      exact ⟨F, env1, z, _, env', st1.sr, k2, e2, fun σ2 st2 => h σ2 (st1.trans st2)⟩
theorem ge_tup {es : List Expr} {k n : Nat} {pos : Pos} {ts : List Nat} {b : BMs} (hX : Of X g) (h : GEs X g es ts b) (hn : (assignEach es X.env).length = n := by rfl) (hst : (assignEach es X.env).findIdx? (·.1) = none := by rfl) : GE X g (.Tuple es k pos) ts (bTup n b) :=
  PG.imp (pg_tup hX.calm h hn hst) fun v σ H Q ⟨F, env, z, d, env', sr, k, e, h⟩ => by
    cases d with
    | tup ds =>
      simp only [bTup] at e
      split at e
      · rename_i hl
        cases k with
        | tup h1 h2 h3 => exact ⟨_, _, rfl, by rw [hX.K]; exact SqT.same sr.sub h1, by rw [h3.length]; exact hl, F, env, z, ds, env', sr, h3, e, h⟩
      · cases e
    | _ => simp [bTup] at e
theorem Rs.sto {ts : List Nat} (r : Rs g M F0 H0 F H σ env z) (s : Sto g F H ts σ env z σ' env') : Rs g M F0 H0 F H σ' env' z :=
  ⟨s.sr, r.ent, fun i d p e1 e2 => by
    obtain ⟨a, b⟩ := s.own i d e1
    rw [b] at e2
    exact r.own i d p a e2⟩
theorem Rs.base (r : Rs g M F0 H0 F H σ env z) : Rs g M F H0 F H σ env z := ⟨r.sr, ⟨Same.refl _, fun _ _ n => n, r.ent.same, r.ent.there⟩, r.own⟩
theorem Rs.world {F3 H3 : Hp} (r : Rs g M F3 H0 F H σ env z) (e : Ent g M F0 H0 F3 H3) : Rs g M F0 H0 F H σ env z :=
  ⟨r.sr, ⟨e.grow.trans r.ent.grow, fun a h n => r.ent.fr a h (e.fr a h n), r.ent.same, r.ent.there⟩, r.own⟩
/-- target = value -/
def sAsg (m : EM) (b : BM) : SM := fun env z => match m env z with
  | some (d, _, z') => match b d env with
    | some env' => .nx env' z'
    | none => .bad
  | none => .bad
theorem ss_asg {tg e : Expr} {pos : Pos} {m : EM} {b : BM} {ts : List Nat} (he : EE X g e m) (hg : GE X g tg ts b) (hs : swapsWithSole [tg] e pos.line X.env = pure false := by rfl) (hw : swappedStores [tg] e X.env = pure none := by rfl)
    (h1 : (assignEach [tg] X.env).map (·.2) = [assign tg X.env] := by rfl) : SS X g M (.Assign [tg] e pos) (sAsg m b) :=
  PS.imp (ps_asg he hg hs hw h1) fun D σ H ⟨F0, H0, F, env, z, r, h⟩ => by
    unfold sAsg at h
    split at h
    · rename_i d fr z' q
      split at h
      · rename_i env' q2
        refine tE.sh r.sr q fun v F' H' s k => ?_
        have r' := r.step s
        exact ⟨F', env, z', d, env', r'.sr, k, q2, fun σ' st => h σ' F' H' (r'.sto st)⟩
      · exact h.elim
    · exact h.elim
/-- a, b = x, y: two local names -/
def sPar (i j : Nat) (a : AM) : SM := fun env z => match a env z with
  | some ([d, e], z') => .nx ((env.set i (.sh d)).set j (.sh e)) z'
  | _ => .bad
theorem ss_par (i j : Nat) {x y : Str} {a b : Expr} {m : AM} {px py pt : Pos} {kt k2 pt2} {pos : Pos} (hX : Of X g) (hN : X.N.Nodup) (ha : AE X g [a, b] m) (hi : X.N[i]? = some x := by rfl) (hj : X.N[j]? = some y := by rfl) (hij : i ≠ j := by decide)
    (hx : X.env.scope.names.lookup x = some .local := by rfl) (hy : X.env.scope.names.lookup y = some .local := by rfl)
    (hw : swappedStores [.Tuple [.Name x px, .Name y py] kt pt] (.Tuple [a, b] k2 pt2) X.env = pure (some [x, y]) := by rfl)
    (hs : swapsWithSole [.Tuple [.Name x px, .Name y py] kt pt] (.Tuple [a, b] k2 pt2) pos.line X.env = pure false := by rfl) :
    SS X g M (.Assign [.Tuple [.Name x px, .Name y py] kt pt] (.Tuple [a, b] k2 pt2) pos) (sPar i j m) :=
  PS.imp (ps_par hX.calm hN hi hj hij hx hy ha hw hs) fun D σ H ⟨F0, H0, F, env, z, r, h⟩ => by
    unfold sPar at h
    split at h
    · rename_i d e z' q
      refine tAr.at r.sr q fun vs F' H' s k => ?_
      cases k with | cons k1 k => cases k with | cons k2 k => cases k; exact ⟨_, _, rfl, h _ F' H' (((r.step s).setSh k1).setSh k2)⟩
    · exact h.elim

/-! ### for -/
def forL (b : BM) (body : SM) : List D → SM
  | [], env, z => .nx env z
  | d :: ds, env, z => match b d env with
    | some env1 => match body env1 z with
      | .nx env2 z2 => forL b body ds env2 z2
      | .ct env2 z2 => forL b body ds env2 z2
      | .bk env2 z2 => .nx env2 z2
      | .rt d fr env2 z2 => .rt d fr env2 z2
      | .bad => .bad
    | none => .bad
def sFor (it : IM) (b : BM) (body : SM) : SM := fun env z => match it env z with
  | some (ds, z') => forL b body ds env z'
  | none => .bad
theorem ss_for {tg iter : Expr} {body : List Stmt} {pos : Pos} {it : IM} {b : BM} {ts : List Nat} {mb : SM} (hX : Of X g) (hp : PassesOwn (model X.prog X.w) X.A X.env X.xe) (hi : IE X g false tg iter it) (hg : GE X g tg ts b) (hb : SSs X g M body mb)
    (hs : ∀ x, foldedSetIterable iter X.env x = pure x := by intro _; rfl) : SS X g M (.For tg iter body [] pos) (sFor it b mb) :=
  PS.imp (ps_for hp hX.calm hi hg hb hs) fun D σ H ⟨F0, H0, F, env, z, r, h⟩ => by
    unfold sFor at h
    split at h
    · rename_i ds z' q
      refine ⟨F, env, z, ds, z', r.sr, q, fun J F1 H1 s1 hlen dv => ?_⟩
      refine ⟨fun i m σ H => i + m = ds.length ∧ ∃ F env z, Same F1 F ∧ Rs g M F0 H0 F H σ env z ∧ Post g M F0 H0 D (forL b mb (ds.drop i) env z), ⟨ds.length, by omega, F1, env, z', Same.refl _, r.step s1, h⟩, ?_⟩
      rintro i m σ2 H2 ⟨him, F2, env2, z2, g2, r2, p2⟩
      obtain ⟨go, stop⟩ := dv F2 H2 g2 r2.sr.sub (fun q => nomatch q)
      by_cases hi : i < ds.length
      · refine .inr ?_
        have hd : ds.drop i = ds[i] :: ds.drop (i + 1) := List.drop_eq_getElem_cons hi
        rw [hd] at p2
        simp only [forL] at p2
        cases q3 : b ds[i] env2 with
        | none => rw [q3] at p2; exact p2.elim
        | some env3 =>
          rw [q3] at p2
          simp only at p2
          obtain ⟨g1, y1⟩ := go i ds[i] (List.getElem?_eq_getElem hi)
          refine ⟨g1, fun σ3 H3 => ∃ F env z, Same F1 F ∧ Rs g M F0 H0 F H3 σ3 env z ∧ Post g M F0 H0 D (forL b mb (ds.drop (i + 1)) env z), fun σ3 H3 n => ⟨m - 1, by omega, by omega, n⟩, fun x H3 y => ?_⟩
          obtain ⟨F3, st, kx⟩ := y1 x H3 y
          have st := st z2 r2.sr.cell
          have r3 := r2.step st
          refine ⟨F3, env2, z2, ds[i], env3, r3.sr, kx, q3, fun σ4 sto => ?_⟩
          have r4 := r3.sto sto
          refine ⟨F3, H0, F3, env3, z2, r4.base, ?_⟩
          have nxt : ∀ {env5 : Env'} {z5 : Int}, Post g M F0 H0 D (forL b mb (ds.drop (i + 1)) env5 z5) → ∀ σ5 F5 H5, Rs g M F3 H0 F5 H5 σ5 env5 z5 → ∃ F env z, Same F1 F ∧ Rs g M F0 H0 F H5 σ5 env z ∧ Post g M F0 H0 D (forL b mb (ds.drop (i + 1)) env z) := fun {env5 z5} p5 σ5 F5 H5 r5 =>
            ⟨F5, env5, z5, (g2.trans st.grow).trans r5.ent.grow, r5.world r4.ent, p5⟩
          cases q4 : mb env3 z2 with
          | nx env5 z5 => rw [q4] at p2; exact nxt p2
          | ct env5 z5 => rw [q4] at p2; exact nxt p2
          | bk env5 z5 => rw [q4] at p2; exact fun σ5 F5 H5 r5 => p2 σ5 F5 H5 (r5.world r4.ent)
          | rt d fr env5 z5 => rw [q4] at p2; exact fun v σ5 F5 H5 r5 k5 => p2 v σ5 F5 H5 (r5.world r4.ent) k5
          | bad => rw [q4] at p2; exact p2
      · refine .inl ⟨stop i (by omega), ?_⟩
        rw [List.drop_eq_nil_of_le (by omega)] at p2
        exact p2 σ2 F2 H2 r2
    · exact h.elim
/-! ### while -/
def whileN (c : TM) (body : SM) : Nat → SM
  | 0, _, _ => .bad
  | n + 1, env, z => match c env z with
    | some (true, z1) => match body env z1 with
      | .nx env2 z2 => whileN c body n env2 z2
      | .ct env2 z2 => whileN c body n env2 z2
      | .bk env2 z2 => .nx env2 z2
      | .rt d fr env2 z2 => .rt d fr env2 z2
      | .bad => .bad
    | some (false, z1) => .nx env z1
    | none => .bad
theorem ss_while {c : Expr} {body : List Stmt} {pos : Pos} {mc : TM} {mb : SM} (n : Nat) (hp : PassesOwn (model X.prog X.w) X.A X.env X.xe) (hc : CE' X g c mc) (hb : SSs X g M body mb) : SS X g M (.While c body [] pos) (whileN mc mb n) :=
  PS.imp (ps_while hp hc hb) fun D σ H ⟨F0, H0, F, env, z, r, h⟩ => by
    refine ⟨fun m σ H => ∃ F env z, Rs g M F0 H0 F H σ env z ∧ Post g M F0 H0 D (whileN mc mb m env z), ⟨n, F, env, z, r, h⟩, ?_⟩
    rintro m σ2 H2 ⟨F2, env2, z2, r2, p2⟩
    cases m with
    | zero => exact p2.elim
    | succ m =>
      simp only [whileN] at p2
      cases q : mc env2 z2 with
      | none => rw [q] at p2; exact p2.elim
      | some t =>
        obtain ⟨b, z3⟩ := t
        rw [q] at p2
        refine tT.at r2.sr q fun F3 H3 s3 => ?_
        cases b with
        | false =>
          rw [if_neg Bool.false_ne_true]
          exact p2 σ2 F3 H3 (r2.step s3)
        | true =>
          rw [if_pos rfl]
          simp only at p2
          refine ⟨fun σ H => ∃ F env z, Rs g M F0 H0 F H σ env z ∧ Post g M F0 H0 D (whileN mc mb m env z), fun σ' H' n => ⟨m, Nat.lt_succ_self _, n⟩, ?_⟩
          refine ⟨F0, H0, F3, env2, z3, r2.step s3, ?_⟩
          cases q4 : mb env2 z3 with
          | nx env5 z5 => rw [q4] at p2; exact fun σ5 F5 H5 r5 => ⟨F5, env5, z5, r5, p2⟩
          | ct env5 z5 => rw [q4] at p2; exact fun σ5 F5 H5 r5 => ⟨F5, env5, z5, r5, p2⟩
          | bk env5 z5 => rw [q4] at p2; exact p2
          | rt d fr env5 z5 => rw [q4] at p2; exact p2
          | bad => rw [q4] at p2; exact p2

/-! ### list comprehensions -/
def cYes : TM := fun _ z => some (true, z)
def PTs' (X : Cx) (g : Gc) (ifs : List Expr) (m : TM) : Prop := PTs X ifs (tT g m)
theorem PTs.imp {e : List Expr} {t t' : TT} (h : PTs X e t) (i : ∀ σ H Q, t' σ H Q → t σ H Q) : PTs X e t' := ⟨fun pins s σ H Q I q => h.run pins s σ H Q I (i σ H Q q)⟩
theorem cts_nil : PTs' X g [] cYes := PTs.imp pts_nil fun σ H Q ⟨F, env, z, b, z', sr, e, h⟩ => by
  simp only [cYes, Option.some.injEq, Prod.mk.injEq] at e
  obtain ⟨rfl, rfl⟩ := e
  exact h F H sr.refl
theorem cts_one {c : Expr} {m : TM} (h : CE' X g c m) : PTs' X g [c] m := pts_one h
def wipeE (env : Env') : List Nat → Env'
  | [] => env
  | v :: vs => (wipeE env vs).set v .un
def compL (b : BM) (t : TM) (e : EM) (env : Env') : List D → Int → Option (List D × Int)
  | [], z => some ([], z)
  | d :: ds, z => (b d env).bind fun env1 => (t env1 z).bind fun p => if p.1 = true then (e env1 p.2).bind fun y => (compL b t e env ds y.2.2).map fun r => (y.1 :: r.1, r.2) else compL b t e env ds p.2
def eComp (vs : List Nat) (it : IM) (b : BM) (t : TM) (e : EM) : EM := fun env z => (it env z).bind fun p => (compL b t e (wipeE env vs) p.1 p.2).map fun r => (.lst r.1, true, r.2)
theorem wipe_len (σ : L2.St) : ∀ vs : List Nat, (wipe σ vs).length = σ.length
  | [] => rfl
  | v :: vs => by unfold wipe; rw [List.length_set, wipe_len σ vs]
theorem SR.wipe (r : SR g F H σ env z) : ∀ vs : List Nat, SR g F H (L2.wipe σ vs) (wipeE env vs) z
  | [] => r
  | v :: vs => by
    have ih := SR.wipe r vs
    unfold L2.wipe wipeE
    have back : ∀ (j : Nat) (d : D), ((wipeE env vs).set v .un)[j]? = some (.ow d) → v ≠ j ∧ (wipeE env vs)[j]? = some (.ow d) := fun j d e => by
      have nj : v ≠ j := fun q => by
        subst q
        rw [List.getElem?_set] at e
        split at e
        · split at e <;> cases e
        · contradiction
      rw [List.getElem?_set_ne nj] at e
      exact ⟨nj, e⟩
    refine ⟨ih.sub, ih.cell, by rw [List.length_set, List.length_set]; exact ih.len, fun j s e => ?_, fun j l p d1 d2 e1 e2 e3 e4 => ?_⟩
    · by_cases hj : v = j
      · subst hj
        rw [List.getElem?_set] at e
        split at e
        · split at e
          · cases e; trivial
          · cases e
        · contradiction
      · rw [List.getElem?_set_ne hj] at e
        rw [List.getElem?_set_ne hj]
        exact ih.at_ j s e
    · obtain ⟨n1, e1⟩ := back j d1 e1
      obtain ⟨n2, e3⟩ := back l d2 e3
      rw [List.getElem?_set_ne n1] at e2
      rw [List.getElem?_set_ne n2] at e4
      exact ih.inj j l p d1 d2 e1 e2 e3 e4
theorem wipe_eq {σ τ : L2.St} : ∀ {vs : List Nat}, σ.length = τ.length → (∀ j, j ∉ vs → σ[j]? = τ[j]?) → L2.wipe σ vs = L2.wipe τ vs := fun {vs} hl h => by
  have get : ∀ (σ : L2.St) (vs : List Nat) (j : Nat), (L2.wipe σ vs)[j]? = if j ∈ vs then (if j < σ.length then some none else none) else σ[j]? := by
    intro σ vs
    induction vs with
    | nil => intro j; simp [L2.wipe]
    | cons v vs ih =>
      intro j
      unfold L2.wipe
      by_cases hj : v = j
      · subst hj
        rw [List.getElem?_set, if_pos rfl, wipe_len]
        simp
      · rw [List.getElem?_set_ne hj, ih]
        have : (j ∈ v :: vs) = (j ∈ vs) := by
          simp only [List.mem_cons]
          exact propext ⟨fun q => q.resolve_left (fun z => hj z.symm), .inr⟩
        simp only [this]
  apply List.ext_getElem?
  intro j
  rw [get, get, hl]
  by_cases q : j ∈ vs
  · rw [if_pos q, if_pos q]
  · rw [if_neg q, if_neg q]; exact h j q
theorem wipe_wipe (σ : L2.St) (vs : List Nat) : L2.wipe (L2.wipe σ vs) vs = L2.wipe σ vs := by
  refine wipe_eq (wipe_len _ _) fun j hj => ?_
  exact wipe_out' hj
where wipe_out' {σ : L2.St} {j : Nat} : ∀ {vs : List Nat}, j ∉ vs → (L2.wipe σ vs)[j]? = σ[j]?
  | [], _ => rfl
  | v :: vs, h => by
    unfold L2.wipe
    rw [List.getElem?_set_ne (fun e => h (by rw [e]; exact List.mem_cons_self))]
    exact wipe_out' fun q => h (List.mem_cons_of_mem _ q)
theorem Of.blk (hX : Of X g) {s : Shared} {H : Hp} {scope : Scope} {cenv : PySem.Env} {fp : List Addr} : Of (X.blk s H scope cenv fp) g := ⟨hX.P, hX.w, hX.K, hX.mg, hX.base, hX.calm⟩
theorem compL_app {b : BM} {t : TM} {e : EM} {env : Env'} : ∀ {ds : List D} {z : Int} {r : List D} {z' : Int}, compL b t e env ds z = some (r, z') → r.length ≤ ds.length
  | [], z, r, z', h => by simp only [compL, Option.some.injEq, Prod.mk.injEq] at h; rw [← h.1]; exact Nat.le_refl _
  | d :: ds, z, r, z', h => by
    simp only [compL] at h
    obtain ⟨env1, _, h⟩ := obind h
    obtain ⟨p, _, h⟩ := obind h
    split at h
    · obtain ⟨y, _, h⟩ := obind h
      obtain ⟨r0, h1, h⟩ := omap h
      simp only [Prod.mk.injEq] at h
      rw [← h.1]
      exact Nat.succ_le_succ (compL_app (r := r0.1) (z' := r0.2) h1)
    · exact Nat.le_succ_of_le (compL_app h)
theorem comp_imp {vs : List Nat} {it : IM} {b : BM} {ts : List Nat} {t : TM} {e : EM} (sub : ∀ j, j ∉ vs → j ∉ ts) (σ : L2.St) (H : Hp) (Q : VK) (hh : tE g (eComp vs it b t e) σ H Q) : tLc (tI g true it) (tG g ts b) (tT g t) (tE g e) vs σ H Q := by
  obtain ⟨F, env, z, d, fr, z', sr, ev, h⟩ := hh
  obtain ⟨⟨ds, z1⟩, q1, ev⟩ := obind ev
  obtain ⟨⟨res, zf⟩, q2, ev⟩ := omap ev
  simp only [Prod.mk.injEq] at ev
  obtain ⟨rfl, rfl, rfl⟩ := ev
  refine ⟨F, env, z, ds, z1, sr, q1, fun J F1 H1 s1 hlen dv D hD => ?_⟩
  have sD : Step g F1 H1 F1 (upd H1 D (.lst [])) z1 := Step.new s1.sub s1.cell hD
  have cD : g.cl ≠ some D := cell_ne s1.cell hD
  refine ⟨fun i m H => i + m = ds.length ∧ ∃ F z acc accD rest, Step g F1 H1 F H z ∧ F D = none ∧ H D = some (.lst acc) ∧ acc.length ≤ i ∧ RepL g F acc accD ∧ compL b t e (wipeE env vs) (ds.drop i) z = some (rest, zf) ∧ accD ++ rest = res,
    ⟨ds.length, by omega, F1, z1, [], [], res, sD, sub_none s1.sub hD, upd_same, Nat.le_refl _, .nil, q2, rfl⟩, ?_⟩
  rintro i m H2 ⟨him, F2, z2, acc, accD, rest, st, fD, hHD, hal, hrep, hc, hres⟩
  obtain ⟨go, stop⟩ := dv F2 H2 st.grow st.sub (fun _ => st.keep)
  by_cases hi : i < ds.length
  · refine .inr ?_
    have hd : ds.drop i = ds[i] :: ds.drop (i + 1) := List.drop_eq_getElem_cons hi
    rw [hd] at hc
    simp only [compL] at hc
    obtain ⟨env3, q3, hc⟩ := obind hc
    obtain ⟨⟨bb, z3⟩, q4, hc⟩ := obind hc
    obtain ⟨g1, y1⟩ := go i ds[i] (List.getElem?_eq_getElem hi)
    refine ⟨g1, fun H => ∃ F z acc accD rest, Step g F1 H1 F H z ∧ F D = none ∧ H D = some (.lst acc) ∧ acc.length ≤ i + 1 ∧ RepL g F acc accD ∧ compL b t e (wipeE env vs) (ds.drop (i + 1)) z = some (rest, zf) ∧ accD ++ rest = res, fun H' n => ⟨m - 1, by omega, by omega, n⟩, fun x H3 y => ?_⟩
    obtain ⟨F3, s3, kx⟩ := y1 x H3 y
    have s3 := s3 z2 st.cell
    have srw : SR g F3 H3 (L2.wipe σ vs) (wipeE env vs) z2 := ((sr.step s1).wipe _).step (st.trans s3)
    refine ⟨F3, _, z2, ds[i], env3, srw, kx, q3, fun σ4 sto => ?_⟩
    refine ⟨?_, ?_⟩
    · refine (wipe_eq sto.len fun j hj => sto.els j (sub j hj)).trans (wipe_wipe _ _)
    refine tT.at sto.sr q4 fun F5 H5 s5 => ?_
    have H2D : H2 D ≠ none := by rw [hHD]; simp
    have f3D : F3 D = none := s3.fr D H2D fD
    have h3D : H3 D = some (.lst acc) := s3.keep D _ cD hHD
    have f5D : F5 D = none := s5.fr D (by rw [h3D]; simp) f3D
    have h5D : H5 D = some (.lst acc) := s5.keep D _ cD h3D
    have st5 := (st.trans s3).trans s5
    cases bb with
    | false =>
      rw [if_neg Bool.false_ne_true] at hc
      rw [if_neg Bool.false_ne_true]
      exact ⟨F5, z3, acc, accD, rest, st5, f5D, h5D, Nat.le_succ_of_le hal, hrep.same (s3.grow.trans s5.grow), hc, hres⟩
    | true =>
      rw [if_pos rfl] at hc
      rw [if_pos rfl]
      obtain ⟨⟨yd, yfr, z6⟩, q6, hc⟩ := obind hc
      obtain ⟨⟨r7, z7⟩, q7, hc⟩ := omap hc
      simp only [Prod.mk.injEq] at hc
      obtain ⟨hc1, hc2⟩ := hc
      subst hc2
      refine tE.sh (sto.sr.step s5) q6 fun v F6 H6 s6 k6 => ?_
      have f6D : F6 D = none := s6.fr D (by rw [h5D]; simp) f5D
      have h6D : H6 D = some (.lst acc) := s6.keep D _ cD h5D
      have st6 := st5.trans s6
      refine ⟨acc, h6D, ?_, F6, z6, acc ++ [v], accD ++ [yd], r7, ?_, f6D, upd_same, ?_, ?_, q7, ?_⟩
      · rw [lim_eq]; omega
      · refine ⟨fun a u q => ?_, st6.grow, st6.fr, fun a u c q => ?_, fun c q => ?_⟩
        · rw [upd_ne (fun e => by subst e; rw [f6D] at q; cases q)]; exact st6.sub _ _ q
        · rw [upd_ne (fun e => by subst e; rw [hD] at q; cases q)]; exact st6.keep a u c q
        · have ⟨c1, c2⟩ := st6.cell c q
          exact ⟨by rw [upd_ne (fun e => cD (by rw [← e]; exact q))]; exact c1, c2⟩
      · rw [List.length_append]; show acc.length + 1 ≤ i + 1; omega
      · exact (hrep.same ((s3.grow.trans s5.grow).trans s6.grow)).append (.cons k6 .nil)
      · rw [List.append_assoc, List.singleton_append, hc1]; exact hres
  · refine .inl ⟨stop i (by omega), ?_⟩
    rw [List.drop_eq_nil_of_le (by omega)] at hc
    simp only [compL, Option.some.injEq, Prod.mk.injEq] at hc
    obtain ⟨rfl, rfl⟩ := hc
    rw [List.append_nil] at hres
    subst hres
    refine h _ F2 H2 (s1.trans st) ⟨D, rfl, ?_, fD, cD, .lst hHD (by rw [lim_eq]; omega) hrep⟩
    cases hq : H D with
    | none => rfl
    | some u => exact absurd hD (s1.there (by rw [hq]; simp))
theorem sub_of {own : List (Str × Nat)} {ts : List Nat} (hts : ts.all (fun i => (own.map (·.2)).contains i) = true) : ∀ j, j ∉ own.map (·.2) → j ∉ ts := fun j hj hm => hj (by
  have := List.all_eq_true.mp hts j hm
  simpa using this)
theorem ee_comp {elt tg iter : Expr} {ifs : List Expr} {scope : Scope} (own : List (Str × Nat)) {pos : Pos} {it : IM} {b : BM} {ts : List Nat} {t : TM} {e : EM} (hX : Of X g) (hN : X.N.Nodup) (hi : IE X g true tg iter it) (ok : BlkOk X.N X.env.scope scope own)
    (hg : ∀ (s : Shared) (H : Hp) (C : Addr) (cl : List (Str × Addr)) (fp : List Addr), GE (X.blk s H scope (compEnvC scope cl C X.env) fp) g tg ts b)
    (ht : ∀ (s : Shared) (H : Hp) (C : Addr) (cl : List (Str × Addr)) (fp : List Addr), PTs' (X.blk s H scope (compEnvC scope cl C X.env) fp) g ifs t)
    (he : ∀ (s : Shared) (H : Hp) (C : Addr) (cl : List (Str × Addr)) (fp : List Addr), EE (X.blk s H scope (compEnvC scope cl C X.env) fp) g elt e)
    (hts : ts.all (fun i => (own.map (·.2)).contains i) = true := by decide) (hs : ∀ x, foldedSetIterable iter X.env x = pure x := by intro _; rfl) :
    EE X g (.ListComp elt [⟨tg, iter, ifs, 0⟩] scope pos) (eComp (own.map (·.2)) it b t e) :=
  PE.imp (pe_lc hX.calm hN hi ok hg ht he hs) fun σ H Q h => comp_imp (sub_of hts) σ H Q h
end
end Tw

namespace Tw
open PySem PySem.Spec PyProof.Rows L2

section
variable {g : Gc} {M : List Addr} {F0 H0 F F' H H' : Hp} {σ σ' : L2.St} {env env' : Env'} {z z' : Int} {X : Cx} {D0 : Ends}
/-! ### lists of one's own are changed -/
def sApp (i : Nat) (m : EM) : SM := fun env z => match env[i]? with
  | some (.ow (.lst xs)) => match m env z with
    | some (d, _, z') => if xs.length < lim then .nx (env.set i (.ow (.lst (xs ++ [d])))) z' else .bad
    | none => .bad
  | _ => .bad
def sExt (i : Nat) (m : OM) : SM := fun env z => match env[i]? with
  | some (.ow (.lst xs)) => match m env z with
    | some (.lst ys, z') => if xs.length + ys.length ≤ lim then .nx (env.set i (.ow (.lst (xs ++ ys)))) z' else .bad
    | _ => .bad
  | _ => .bad
theorem Rs.lstAt {i : Nat} {ds : List D} (r : Rs g M F0 H0 F H σ env z) (e1 : env[i]? = some (.ow (.lst ds))) : ∃ p vs, σ[i]? = some (some (.ref p)) ∧ F p = none ∧ g.cl ≠ some p ∧ H p = some (.lst vs) ∧ vs.length ≤ sizeLine ∧ RepL g F vs ds := by
  obtain ⟨p, h1, h2, h3, h4⟩ := r.sr.at_ i _ e1
  cases h4 with
  | lst a b c => exact ⟨p, _, h1, h2, h3, a, b, c⟩
theorem ss_app (i : Nat) {x : Str} {e : Expr} {p1 apos cpos pos : Pos} {m : EM} (he : EE X g e m) (hN : X.N[i]? = some x := by rfl) (hv : Vis X.env.scope x := by first | exact Or.inl rfl | exact Or.inr (Or.inl rfl) | exact Or.inr (Or.inr rfl)) (hd : (x == ("__debug__" : Str)) = false := by decide)
    (hcd : (x == ("__classdict__" : Str)) = false := by decide)
    (hs : swapsWith (.Call (.Attribute (.Name x p1) "append" apos) [e] [] cpos) none pos.line X.env = pure false := by rfl)
    (hbase : attributeBase (.Name x p1) "append" X.env (eval (.Name x p1) X.env) = eval (.Name x p1) X.env := by rfl)
    (hfew : ((backTo cpos (starEach [e] X.env)).all (fun x => !x.1) && (backToKw cpos (keywordEach [] X.env)).all (fun x => x.1.isSome)
      && decide (([e] : List Expr).length + ([] : List Keyword).length + (if ([] : List Keyword).isEmpty then 0 else 1) < 30)) = true := by rfl)
    (hline : (apos.endLine == cpos.line) = true := by rfl) (hst : starEach [e] X.env = (false, eval e X.env) :: starEach [] X.env := by rfl) :
    SS X g M (.Expr (.Call (.Attribute (.Name x p1) "append" apos) [e] [] cpos) pos) (sApp i m) :=
  PS.imp (ps_expr (pe_bm PySem.F.plainAttrs_list PySem.F.slot_list_append PySem.F.type_list_append mt_append (pe_var hN hv hd hcd) (pa_cons he pa_nil hst) hbase hfew hline hst (by rfl)) hs) fun D σ H ⟨F0, H0, F, env, z, r, h⟩ => by
    unfold sApp at h
    split at h
    · rename_i xs q
      split at h
      · rename_i d fr z' q2
        split at h
        · rename_i hl
          obtain ⟨p, vs, h1, h2, h3, h4, h5, h6⟩ := r.lstAt q
          refine ⟨.ref p, h1, .inl ⟨rfl, _, .inl (.inl h4)⟩, tE.sh r.sr q2 fun v F' H' s k => ?_⟩
          have r' := r.step s
          have h4' : H' p = some (.lst vs) := s.keep p _ h3 h4
          refine ⟨p, vs, v, rfl, rfl, h4', by rw [lim_eq, h6.length]; exact hl, ?_⟩
          refine h σ F' _ (r'.write q h1 (.lst upd_same ?_ ((h6.same s.grow).append (.cons k .nil))))
          rw [List.length_append, lim_eq, h6.length]; show xs.length + 1 ≤ 16777216
          have : xs.length < 16777216 := hl
          omega
        · exact h.elim
      · exact h.elim
    · exact h.elim
theorem ss_ext (i : Nat) {x : Str} {e : Expr} {p1 apos cpos pos : Pos} {m : OM} (he : OE X g e m) (hN : X.N[i]? = some x := by rfl) (hv : Vis X.env.scope x := by first | exact Or.inl rfl | exact Or.inr (Or.inl rfl) | exact Or.inr (Or.inr rfl)) (hd : (x == ("__debug__" : Str)) = false := by decide)
    (hcd : (x == ("__classdict__" : Str)) = false := by decide)
    (hs : swapsWith (.Call (.Attribute (.Name x p1) "extend" apos) [e] [] cpos) none pos.line X.env = pure false := by rfl)
    (hbase : attributeBase (.Name x p1) "extend" X.env (eval (.Name x p1) X.env) = eval (.Name x p1) X.env := by rfl)
    (hfew : ((backTo cpos (starEach [e] X.env)).all (fun x => !x.1) && (backToKw cpos (keywordEach [] X.env)).all (fun x => x.1.isSome)
      && decide (([e] : List Expr).length + ([] : List Keyword).length + (if ([] : List Keyword).isEmpty then 0 else 1) < 30)) = true := by rfl)
    (hline : (apos.endLine == cpos.line) = true := by rfl) (hst : starEach [e] X.env = (false, eval e X.env) :: starEach [] X.env := by rfl) :
    SS X g M (.Expr (.Call (.Attribute (.Name x p1) "extend" apos) [e] [] cpos) pos) (sExt i m) :=
  PS.imp (ps_expr (pe_bm PySem.F.plainAttrs_list PySem.F.slot_list_extend PySem.F.type_list_extend mt_extend (pe_var hN hv hd hcd) (pa_cons he pa_nil hst) hbase hfew hline hst (by rfl)) hs) fun D σ H ⟨F0, H0, F, env, z, r, h⟩ => by
    unfold sExt at h
    split at h
    · rename_i xs q
      split at h
      · rename_i ys z' q2
        split at h
        · rename_i hl
          obtain ⟨p, vs, h1, h2, h3, h4, h5, h6⟩ := r.lstAt q
          refine ⟨.ref p, h1, .inl ⟨rfl, _, .inl (.inl h4)⟩, tP.at r.sr q2 fun v F' H' s k => ?_⟩
          have r' := r.step s
          have h4' : H' p = some (.lst vs) := s.keep p _ h3 h4
          obtain ⟨b, ws, rfl, g1, g2, g3⟩ := k.lst s.sub
          have hz : vs.length + ws.length ≤ sizeLine := by rw [lim_eq, h6.length, g3.length]; exact hl
          refine ⟨p, b, vs, ws, rfl, rfl, h4', g1, hz, ?_⟩
          exact h σ F' _ (r'.write q h1 (.lst upd_same (by rw [List.length_append]; exact hz) ((h6.same s.grow).append g3)))
        · exact h.elim
      · exact h.elim
    · exact h.elim

/-! ### a def keeps its promise -/
def runDef (np nl : Nat) (m : SM) (ds : List D) (z : Int) : ER := if ds.length = np then (match m (ds.map .sh ++ List.replicate nl .un) z with
  | .rt d fr _ z' => some (d, fr, z')
  | .nx _ z' => some (.non, false, z')
  | _ => none) else none
theorem start_sr {N : List Str} {vs : List V} {ds : List D} {nl : Nat} (s : Same F H) (c : CellOk g F H z) (r : RepL g F vs ds) (hN : N.length = ds.length + nl) : SR g F H (L2.start N vs) (ds.map .sh ++ List.replicate nl .un) z := by
  have hl := r.length
  have e0 : N.length - vs.length = nl := by omega
  have noow : ∀ (i : Nat) (d : D), (ds.map Slot.sh ++ List.replicate nl Slot.un)[i]? ≠ some (.ow d) := fun i d e => by
    have := List.mem_of_getElem? e
    rw [List.mem_append, List.mem_map, List.mem_replicate] at this
    rcases this with ⟨x, _, h⟩ | ⟨_, h⟩ <;> cases h
  refine ⟨s, c, ?_, fun i sl e => ?_, fun i j p d d' e => absurd e (noow i d)⟩
  · unfold L2.start
    rw [e0, List.length_append, List.length_append, List.length_map, List.length_map, List.length_replicate, List.length_replicate, hl]
  · unfold L2.start
    by_cases hi : i < ds.length
    · rw [List.getElem?_append_left (by rw [List.length_map]; exact hi), List.getElem?_map] at e
      rw [List.getElem?_append_left (by rw [List.length_map]; omega), List.getElem?_map]
      obtain ⟨d, h1, rfl⟩ := omap e
      obtain ⟨v, h2, h3⟩ := r.get h1
      exact ⟨v, by rw [h2]; rfl, h3⟩
    · rw [List.getElem?_append_right (by rw [List.length_map]; omega), List.getElem?_replicate] at e
      split at e
      · cases e; trivial
      · cases e
theorem fn_ok {x qual : Str} {st : Stmt} {f : Addr} {fd : FuncData} {N ps : List Str} {k : Nat} (nl : Nat) {m : SM} (Fo : Fun g.K x qual st f fd) (S : FnScope N ps (defScope st)) (hm : g.mg x = some (.ref f)) (hb : Binds g.K fd ps []) (hN : N.length = ps.length + nl)
    (body : ∀ (cdv : Value) (A : Around) (outer : List PySem.Env) (s : Shared) (H : Hp) (E : XK), Room k (A.deeper (envOfC qual (defScope st) s.heap.objs.size f cdv)) →
      SSs (cxOf CX0 g.P g.w g.K g.mg g.base N qual (defScope st) f cdv A outer s H E).nox g [] (defBody st) m) : HaveFn g (k + 1) x (runDef ps.length nl m) := by
  refine ⟨f, fd, ps, Fo.ok S (fun vs H Q E h => ?_) (fun cdv A outer s H vs Q E hr h => ?_), hm, Fo.kp, hb⟩
  · obtain ⟨F, ds, z, d, fr, z', _, _, r, e, _⟩ := h
    unfold runDef at e
    split at e
    · rename_i hl; exact r.length.trans hl
    · cases e
  · obtain ⟨F, ds, z, d, fr, z', sb, c, r, e, q⟩ := h
    refine ⟨_, body cdv A outer s H E hr, ?_⟩
    unfold runDef at e
    split at e
    · rename_i hl
      have sr : SR g F H (L2.start N vs) (ds.map .sh ++ List.replicate nl .un) z := start_sr sb c r (by rw [hl]; exact hN)
      have noow : ∀ (i : Nat) (d : D), (ds.map Slot.sh ++ List.replicate nl Slot.un)[i]? ≠ some (.ow d) := fun i d e => by
        have := List.mem_of_getElem? e
        rw [List.mem_append, List.mem_map, List.mem_replicate] at this
        rcases this with ⟨x, _, h⟩ | ⟨_, h⟩ <;> cases h
      refine ⟨F, H, F, _, z, ⟨sr, Ent.refl F H, fun i d p e => absurd e (noow i d)⟩, ?_⟩
      split at e
      · rename_i d' fr' env' z'' hq
        simp only [Option.some.injEq, Prod.mk.injEq] at e
        obtain ⟨rfl, rfl, rfl⟩ := e
        rw [hq]
        exact fun v σ' F' H' r' k' => q v F' H' (r'.ent.toStep r'.sr.sub r'.sr.cell) k'
      · rename_i env' z'' hq
        simp only [Option.some.injEq, Prod.mk.injEq] at e
        obtain ⟨rfl, rfl, rfl⟩ := e
        rw [hq]
        exact fun σ' F' H' r' => q .non F' H' (r'.ent.toStep r'.sr.sub r'.sr.cell) .non
      · cases e
    · cases e
/-- with no call let nothing is promised -/
theorem fn_zero {x qual : Str} {st : Stmt} {f : Addr} {fd : FuncData} {ps : List Str} (Fo : Fun g.K x qual st f fd) (hm : g.mg x = some (.ref f)) (hb : Binds g.K fd ps []) : HaveFn g 0 x (fun _ _ => none) := by
  have no : ∀ vs H Q E, ¬ spD g (fun _ _ => none) vs H Q E := fun vs H Q E h => by
    obtain ⟨F, ds, z, d, fr, z', _, _, _, e, _⟩ := h
    cases e
  exact ⟨f, fd, ps, ⟨fun vs H Q E h => absurd h (no vs H Q E), fun A outer s H args us vs Q E _ _ _ _ h => absurd h (no vs H Q E)⟩, hm, Fo.kp, hb⟩
end
end Tw

namespace Tw
open PySem PySem.Spec PyProof.Rows L2

/-! ### data as the library's data -/
mutual
def py : D → PyData
  | .non => .none
  | .bl b => .bool b
  | .int i => .int i
  | .str x => .str x
  | .tup xs => .tuple (pys xs)
  | .lst xs => .list (pys xs)
  | .kst xs => .list (pys xs)
  | .dic _ => .none
  | .cell => .none
  | .fn _ => .none
def pys : List D → List PyData
  | [] => []
  | x :: xs => py x :: pys xs
end
theorem pys_map : ∀ xs : List D, pys xs = xs.map py
  | [] => rfl
  | x :: xs => by rw [pys, pys_map xs]; rfl
/-- plain data, of such a depth at most -/
def plainN : Nat → D → Bool
  | _, .non => true
  | _, .bl _ => true
  | _, .int _ => true
  | _, .str x => PySem.PyData.strOk x
  | n + 1, .tup xs => xs.all (plainN n)
  | n + 1, .lst xs => xs.all (plainN n)
  | n + 1, .kst xs => xs.all (plainN n)
  | _, _ => false
abbrev plain (d : D) : Bool := plainN 60 d
section
variable {g : Gc} {M : List Addr} {F0 H0 F F' H H' : Hp} {σ σ' : L2.St} {env env' : Env'} {z z' : Int} {X : Cx} {D0 : Ends}
mutual
theorem plain_ok : ∀ (n : Nat) (d : D), plainN n d = true → (py d).canLay0 = true ∧ (py d).depth ≤ n
  | n, .non, _ => by cases n <;> simp [py, PyData.canLay0, PyData.depth]
  | n, .bl _, _ => by cases n <;> simp [py, PyData.canLay0, PyData.depth]
  | n, .int _, _ => by cases n <;> simp [py, PyData.canLay0, PyData.depth]
  | n, .str x, h => by
    have h' : PySem.PyData.strOk x = true := by cases n <;> simpa [plainN] using h
    simp [py, PyData.canLay0, PyData.depth, h']
  | n + 1, .tup xs, h => by
    have h' : xs.all (plainN n) = true := by simpa [plainN] using h
    have := plain_oks n xs h'
    simp only [py, PyData.canLay0, PyData.depth]
    exact ⟨this.1, Nat.succ_le_succ this.2⟩
  | n + 1, .lst xs, h => by
    have h' : xs.all (plainN n) = true := by simpa [plainN] using h
    have := plain_oks n xs h'
    simp only [py, PyData.canLay0, PyData.depth]
    exact ⟨this.1, Nat.succ_le_succ this.2⟩
  | n + 1, .kst xs, h => by
    have h' : xs.all (plainN n) = true := by simpa [plainN] using h
    have := plain_oks n xs h'
    simp only [py, PyData.canLay0, PyData.depth]
    exact ⟨this.1, Nat.succ_le_succ this.2⟩
  | 0, .tup xs, h => by simp [plainN] at h
  | 0, .lst xs, h => by simp [plainN] at h
  | 0, .kst xs, h => by simp [plainN] at h
  | n, .dic _, h => by cases n <;> simp [plainN] at h
  | n, .cell, h => by cases n <;> simp [plainN] at h
  | n, .fn _, h => by cases n <;> simp [plainN] at h
theorem plain_oks : ∀ (n : Nat) (ds : List D), ds.all (plainN n) = true → PyData.canLayAll0 (pys ds) = true ∧ PyData.depthAll (pys ds) ≤ n
  | n, [], _ => by simp [pys, PyData.canLayAll0, PyData.depthAll]
  | n, d :: ds, h => by
    rw [List.all_cons, Bool.and_eq_true] at h
    have h1 := plain_ok n d h.1
    have h2 := plain_oks n ds h.2
    simp only [pys, PyData.canLayAll0, PyData.depthAll, Bool.and_eq_true]
    exact ⟨⟨h1.1, h2.1⟩, Nat.max_le.mpr ⟨h1.2, h2.2⟩⟩
end
theorem plain_shaped {d : D} (h : plain d = true) : SeqAt.shaped (py d) = true := by
  obtain ⟨h1, h2⟩ := plain_ok 60 d h
  unfold SeqAt.shaped
  rw [h1, Bool.true_and]
  exact decide_eq_true (by omega)
mutual
theorem Rep.dp (s : Same F H) : ∀ (n : Nat) (d : D) (v : V), plainN n d = true → Rep g F v d → Dp g.K H v (py d)
  | n, .non, _, _, .non => .non
  | n, .bl _, _, _, .bl b => .bl b
  | n, .int _, _, _, .int i => .int i
  | n, .str _, _, _, .str x _ => .str x
  | n + 1, .tup xs, _, h, .tup q _ r => .tup (SqT.same s q) (RepL.dp s n xs _ (by simpa [plainN] using h) r)
  | n + 1, .lst xs, _, h, .lst q _ r => .lst (.inl (.inl (s _ _ q))) (RepL.dp s n xs _ (by simpa [plainN] using h) r)
  | n + 1, .kst xs, _, h, .kst q _ r => .lst (SqL.same s q) (RepL.dp s n xs _ (by simpa [plainN] using h) r)
  | 0, .tup xs, _, h, _ => by simp [plainN] at h
  | 0, .lst xs, _, h, _ => by simp [plainN] at h
  | 0, .kst xs, _, h, _ => by simp [plainN] at h
  | n, .dic _, _, h, _ => by cases n <;> simp [plainN] at h
  | n, .cell, _, h, _ => by cases n <;> simp [plainN] at h
  | n, .fn _, _, h, _ => by cases n <;> simp [plainN] at h
theorem RepL.dp (s : Same F H) : ∀ (n : Nat) (ds : List D) (vs : List V), ds.all (plainN n) = true → RepL g F vs ds → DpAll g.K H vs (pys ds)
  | n, [], _, _, .nil => .nil
  | n, d :: ds, _, h, .cons q r => by
    rw [List.all_cons, Bool.and_eq_true] at h
    exact .cons (Rep.dp s n d _ h.1 q) (RepL.dp s n ds _ h.2 r)
end
theorem Pk.dp {x : V} {d : D} (s : Same F H) (k : Pk g F H x d) (h : plain d = true) : Dp g.K H x (py d) := by
  rcases k with k | ⟨p, e, _, _, o⟩
  · exact k.dp s 60 d x h
  · subst e
    cases o with
    | lst h1 h2 h3 => exact .lst (.inl (.inl h1)) (h3.dp s 59 _ _ (by simpa [plain, plainN] using h))
    | dk _ _ _ => simp [plain, plainN] at h
    | dn _ _ _ => simp [plain, plainN] at h
def dEq (d e : D) : Option Bool := if plain d && plain e then some (PyData.eqv (py d) (py e)) else none
def dNe (d e : D) : Option Bool := if plain d && plain e then some (!PyData.eqv (py d) (py e)) else none
theorem cmp_eq (hX : Of X g) (hu : X.A.units + 64 < cLine) : ∃ r, OpR X (compareOp .Eq) r ∧ CmpOk g dEq r := by
  refine ⟨_, op_eqD hu, ?_⟩
  intro F H z x y d e b Q s c kx ky h q
  unfold dEq at h
  split at h
  · rename_i hp
    rw [Bool.and_eq_true] at hp
    cases h
    rw [hX.K]
    exact ⟨_, _, kx.dp s hp.1, ky.dp s hp.2, plain_shaped hp.1, plain_shaped hp.2, q⟩
  · cases h
theorem cmp_ne (hX : Of X g) (hu : X.A.units + 64 < cLine) : ∃ r, OpR X (compareOp .NotEq) r ∧ CmpOk g dNe r := by
  refine ⟨_, op_neD hu, ?_⟩
  intro F H z x y d e b Q s c kx ky h q
  unfold dNe at h
  split at h
  · rename_i hp
    rw [Bool.and_eq_true] at hp
    cases h
    rw [hX.K]
    exact ⟨_, _, kx.dp s hp.1, ky.dp s hp.2, plain_shaped hp.1, plain_shaped hp.2, q⟩
  · cases h
/-- the order of data -/
def isNon : D → Bool
  | .non => true
  | _ => false
def ordOk (d e : D) : Bool := plain d && plain e && PySem.W.alike (py d) (py e) && !isNon d
def dLtD (d e : D) : Option Bool := if ordOk d e then some (PySem.W.dataLt (py d) (py e)) else none
def dGtD (d e : D) : Option Bool := if ordOk d e then some (PySem.W.dataLt (py e) (py d)) else none
def dLeD (d e : D) : Option Bool := if ordOk d e then some (!PySem.W.dataLt (py e) (py d)) else none
def dGeD (d e : D) : Option Bool := if ordOk d e then some (!PySem.W.dataLt (py d) (py e)) else none
def rOrd (K : PySem.W.Frag) (b : PyData → PyData → Bool) : R2 := fun x y H Q => ∃ d e, Dp K H x d ∧ Dp K H y e ∧ PySem.W.alike d e = true ∧ d ≠ .none ∧ d.depth ≤ 60 ∧ Q (.bl (b d e)) H
theorem ord_room {n : Nat} {m k : Nat} (hu : n + 64 < cLine) (h : m ≤ 60) : n + min m k < cLine := by
  have : min m k ≤ m := Nat.min_le_left _ _
  omega
theorem op_ltD (hu : X.A.units + 64 < cLine) : OpR X (compareOp .Lt) (rOrd X.K fun d e => PySem.W.dataLt d e) := by
  intro pins s σ H x y v u Q I rx ry h
  obtain ⟨d, e, hd, he, ha, hn, hz, q⟩ := h
  obtain ⟨as, r1⟩ := Dp.reads I d x v hd rx
  obtain ⟨bs, r2⟩ := Dp.reads I e y u he ry
  exact PySem.W.lt_data r1 r2 ha hn (ord_room hu hz) ⟨.bl _, H, I, rfl, q⟩
theorem op_gtD (hu : X.A.units + 64 < cLine) : OpR X (compareOp .Gt) (rOrd X.K fun d e => PySem.W.dataLt e d) := by
  intro pins s σ H x y v u Q I rx ry h
  obtain ⟨d, e, hd, he, ha, hn, hz, q⟩ := h
  obtain ⟨as, r1⟩ := Dp.reads I d x v hd rx
  obtain ⟨bs, r2⟩ := Dp.reads I e y u he ry
  exact PySem.W.gt_data r1 r2 ha hn (ord_room hu hz) ⟨.bl _, H, I, rfl, q⟩
theorem op_leD (hu : X.A.units + 64 < cLine) : OpR X (compareOp .LtE) (rOrd X.K fun d e => !PySem.W.dataLt e d) := by
  intro pins s σ H x y v u Q I rx ry h
  obtain ⟨d, e, hd, he, ha, hn, hz, q⟩ := h
  obtain ⟨as, r1⟩ := Dp.reads I d x v hd rx
  obtain ⟨bs, r2⟩ := Dp.reads I e y u he ry
  exact PySem.W.le_data r1 r2 ha hn (ord_room hu hz) ⟨.bl _, H, I, rfl, q⟩
theorem op_geD (hu : X.A.units + 64 < cLine) : OpR X (compareOp .GtE) (rOrd X.K fun d e => !PySem.W.dataLt d e) := by
  intro pins s σ H x y v u Q I rx ry h
  obtain ⟨d, e, hd, he, ha, hn, hz, q⟩ := h
  obtain ⟨as, r1⟩ := Dp.reads I d x v hd rx
  obtain ⟨bs, r2⟩ := Dp.reads I e y u he ry
  exact PySem.W.ge_data r1 r2 ha hn (ord_room hu hz) ⟨.bl _, H, I, rfl, q⟩
theorem py_non {d : D} (h : plain d = true) (hn : isNon d = false) : py d ≠ .none := by
  cases d <;> simp [plain, plainN, isNon, py] at h hn ⊢
theorem ord_of {b : PyData → PyData → Bool} {f : D → D → Option Bool} (hX : Of X g) (hf : ∀ d e, f d e = if ordOk d e then some (b (py d) (py e)) else none) : CmpOk g f (rOrd X.K b) := by
  intro F H z x y d e c0 Q s c kx ky h q
  rw [hf] at h
  split at h
  · rename_i hp
    unfold ordOk at hp
    simp only [Bool.and_eq_true, Bool.not_eq_true'] at hp
    obtain ⟨⟨⟨h1, h2⟩, h3⟩, h4⟩ := hp
    cases h
    rw [hX.K]
    exact ⟨_, _, kx.dp s h1, ky.dp s h2, h3, py_non h1 h4, (plain_ok 60 d h1).2, q⟩
  · cases h
theorem cmp_lt (hX : Of X g) (hu : X.A.units + 64 < cLine) : ∃ r, OpR X (compareOp .Lt) r ∧ CmpOk g dLtD r := ⟨_, op_ltD hu, ord_of hX fun _ _ => rfl⟩
theorem cmp_gtD (hX : Of X g) (hu : X.A.units + 64 < cLine) : ∃ r, OpR X (compareOp .Gt) r ∧ CmpOk g dGtD r := ⟨_, op_gtD hu, ord_of (b := fun d e => PySem.W.dataLt e d) hX fun _ _ => rfl⟩
theorem cmp_leD (hX : Of X g) (hu : X.A.units + 64 < cLine) : ∃ r, OpR X (compareOp .LtE) r ∧ CmpOk g dLeD r := ⟨_, op_leD hu, ord_of (b := fun d e => !PySem.W.dataLt e d) hX fun _ _ => rfl⟩
theorem cmp_geD (hX : Of X g) (hu : X.A.units + 64 < cLine) : ∃ r, OpR X (compareOp .GtE) r ∧ CmpOk g dGeD r := ⟨_, op_geD hu, ord_of (b := fun d e => !PySem.W.dataLt d e) hX fun _ _ => rfl⟩
/-- in: a list (data of any depth), a tuple (flat), a text (one sign) -/
def flatD : D → Bool
  | .int _ => true
  | .str _ => true
  | _ => false
def eqF : D → D → Bool
  | .int i, .int j => i == j
  | .str x, .str y => x == y
  | _, _ => false
def dIn (d e : D) : Option Bool := match e with
  | .lst xs => if plain d && plain e then some ((pys xs).any fun y => PyData.eqv y (py d)) else none
  | .kst xs => if plain d && plain e then some ((pys xs).any fun y => PyData.eqv y (py d)) else none
  | .tup xs => if flatD d && xs.all flatD then some (xs.any fun y => eqF y d) else none
  | .str y => match d with
    | .str x => match x.cps.toList with
      | [c] => some (decide (c ∈ y.cps.toList))
      | _ => none
    | _ => none
  | _ => none
def dNotIn (d e : D) : Option Bool := (dIn d e).map (!·)
theorem flat_vs : ∀ {vs : List V} {ds : List D}, RepL g F vs ds → ds.all flatD = true → vs.all flatV = true ∧ ∀ (x : V) (d : D), Rep g F x d → flatD d = true → inV x vs = ds.any fun y => eqF y d
  | _, _, .nil, _ => ⟨rfl, fun _ _ _ _ => rfl⟩
  | v :: vs, d :: ds, .cons q r, h => by
    rw [List.all_cons, Bool.and_eq_true] at h
    obtain ⟨h1, h2⟩ := flat_vs r h.2
    refine ⟨?_, fun x e k hf => ?_⟩
    · rw [List.all_cons, h1]
      cases d with
      | int i => cases q; rfl
      | str i => cases q; rfl
      | _ => simp [flatD] at h
    · have := h2 x e k hf
      unfold inV at this ⊢
      rw [List.any_cons, List.any_cons, this]
      congr 1
      cases d with
      | int i =>
        cases q
        cases e with
        | int j => cases k; simp [eqV, eqF]
        | str j => cases k; simp [eqV, eqF]
        | _ => simp [flatD] at hf
      | str i =>
        cases q
        cases e with
        | int j => cases k; simp [eqV, eqF]
        | str j => cases k; simp [eqV, eqF]
        | _ => simp [flatD] at hf
      | _ => simp [flatD] at h
theorem flat_V {x : V} {d : D} (k : Rep g F x d) (h : flatD d = true) : flatV x = true := by
  cases d with
  | int i => cases k; rfl
  | str i => cases k; rfl
  | _ => simp [flatD] at h
theorem cmp_inBase (hX : Of X g) {F H : Hp} {z : Int} {x y : V} {d e : D} {b : Bool} (Q : VK) (neg : Bool) (s : Same F H) (c : CellOk g F H z) (kx : Pk g F H x d) (ky : Pk g F H y e) (hb : dIn d e = some b) (q : Q (.bl (if neg then !b else b)) H) :
    (if neg then rNotInD X.K x y H Q else rInD X.K x y H Q) ∨ rIn X.K neg x y H Q ∨ ∃ (c : Nat) (z : Str), x = .str ⟨#[c]⟩ ∧ y = .str z ∧ Q (.bl (if neg then !decide (c ∈ z.cps.toList) else decide (c ∈ z.cps.toList))) H := by
  cases e with
  | lst xs =>
    simp only [dIn] at hb
    split at hb
    · rename_i hp
      rw [Bool.and_eq_true] at hp
      cases hb
      refine .inl ?_
      have h1 := kx.dp s hp.1
      have h2 := ky.dp s hp.2
      rw [hX.K]
      cases neg
      · exact ⟨_, _, h1, h2, plain_shaped hp.1, plain_shaped hp.2, q⟩
      · exact ⟨_, _, h1, h2, plain_shaped hp.1, plain_shaped hp.2, q⟩
    · cases hb
  | kst xs =>
    simp only [dIn] at hb
    split at hb
    · rename_i hp
      rw [Bool.and_eq_true] at hp
      cases hb
      refine .inl ?_
      have h1 := kx.dp s hp.1
      have h2 := ky.dp s hp.2
      rw [hX.K]
      cases neg
      · exact ⟨_, _, h1, h2, plain_shaped hp.1, plain_shaped hp.2, q⟩
      · exact ⟨_, _, h1, h2, plain_shaped hp.1, plain_shaped hp.2, q⟩
    · cases hb
  | tup xs =>
    simp only [dIn] at hb
    split at hb
    · rename_i hp
      rw [Bool.and_eq_true] at hp
      cases hb
      obtain ⟨a, vs, rfl, h1, h2, h3⟩ := ky.tup
      obtain ⟨f1, f2⟩ := flat_vs h3 hp.2
      rcases kx with kx | ⟨p, e, _, _, o⟩
      · refine .inr (.inl ⟨a, vs, rfl, .inr (by rw [hX.K]; exact SqT.same s h1), flat_V kx hp.1, f1, ?_⟩)
        rw [f2 x d kx hp.1]
        exact q
      · cases o <;> simp [flatD] at hp
    · cases hb
  | str y0 =>
    cases d with
    | str x0 =>
      simp only [dIn] at hb
      split at hb
      · rename_i c0 hl
        cases hb
        have e0 : x0 = ⟨#[c0]⟩ := by
          obtain ⟨cs⟩ := x0
          congr 1
          apply Array.ext'
          simpa using hl
        subst e0
        exact .inr (.inr ⟨c0, y0, kx.str.1, ky.str.1, q⟩)
      · cases hb
    | _ => simp [dIn] at hb
  | _ => simp [dIn] at hb
theorem cmp_in (hX : Of X g) (hu : X.A.units + 65 < cLine) : ∃ r, OpR X (compareOp .In) r ∧ CmpOk g dIn r := by
  refine ⟨_, (op_inD hu).or (op_in_seq.or op_in_sign), ?_⟩
  intro F H z x y d e b Q s c kx ky hb q
  have := cmp_inBase hX Q false s c kx ky hb (by simpa using q)
  simpa using this
theorem cmp_notIn (hX : Of X g) (hu : X.A.units + 65 < cLine) : ∃ r, OpR X (compareOp .NotIn) r ∧ CmpOk g dNotIn r := by
  refine ⟨_, (op_notInD hu).or (op_notIn_seq.or op_notIn_sign), ?_⟩
  intro F H z x y d e b Q s c kx ky hb q
  obtain ⟨b0, h1, h2⟩ := omap hb
  subst h2
  have := cmp_inBase hX Q true s c kx ky h1 (by simpa using q)
  simpa using this
/-- is None, is not None -/
def dIsN : D → D → Option Bool
  | .non, .non => some true
  | .int _, .non => some false
  | .bl _, .non => some false
  | .str _, .non => some false
  | .tup _, .non => some false
  | .lst _, .non => some false
  | .dic _, .non => some false
  | _, _ => none
def dNotN (d e : D) : Option Bool := (dIsN d e).map (!·)
theorem isN_val {x y : V} {d e : D} {b : Bool} (s : Same F H) (kx : Pk g F H x d) (ky : Pk g F H y e) (h : dIsN d e = some b) : y = .non ∧ b = decide (x = .non) := by
  cases e with
  | non =>
    refine ⟨ky.non, ?_⟩
    cases d with
    | non => cases h; rw [kx.non]; simp
    | int i => cases h; rw [kx.int]; simp
    | bl i => cases h; rw [kx.bl]; simp
    | str i => cases h; rw [kx.str.1]; simp
    | tup i => cases h; obtain ⟨a, vs, rfl, _⟩ := kx.tup; simp
    | lst i => cases h; obtain ⟨a, vs, rfl, _⟩ := kx.lst s; simp
    | dic i =>
      cases h
      rcases kx with kx | ⟨p, e, _, _, o⟩
      · cases kx <;> simp
      · subst e; simp
    | _ => simp [dIsN] at h
  | _ => cases d <;> simp [dIsN] at h
theorem cmp_isN : CmpOk g dIsN (fun x y H Q => y = .non ∧ Q (.bl (decide (x = .non))) H) := by
  intro F H z x y d e b Q s c kx ky hb q
  obtain ⟨h1, h2⟩ := isN_val s kx ky hb
  subst h2
  exact ⟨h1, q⟩
theorem cmp_notN : CmpOk g dNotN (fun x y H Q => y = .non ∧ Q (.bl (!decide (x = .non))) H) := by
  intro F H z x y d e b Q s c kx ky hb q
  obtain ⟨b0, h0, h3⟩ := omap hb
  obtain ⟨h1, h2⟩ := isN_val s kx ky h0
  subst h2 h3
  exact ⟨h1, q⟩

/-! ### built-ins over sequences -/
/-- sorted -/
def leD (a b : D) : Bool := !PySem.W.dataLt (py b) (py a)
def neTup : D → Bool
  | .tup (_ :: _) => true
  | _ => false
def noTup : D → Bool
  | .tup _ => false
  | .non => false
  | _ => true
def sortOk (xs : List D) : Bool := xs.all (plainN 58) && xs.all (fun a => xs.all fun b => PySem.W.alike (py a) (py b)) && (xs.all neTup || xs.all noTup)
def dSorted : List D → Option (D × Bool)
  | [.lst xs] => if xs.length < 2 then some (.lst xs, true) else if sortOk xs then some (.lst (xs.mergeSort leD), true) else none
  | [.kst xs] => if xs.length < 2 then some (.lst xs, true) else if sortOk xs then some (.lst (xs.mergeSort leD), true) else none
  | _ => none
theorem RepL.each {vs : List V} {us : List Value} {ds : List D} : RepL g F vs ds → Vals vs us → PySem.W.EachIs (fun u d => ∃ v, RelV v u ∧ Rep g F v d) us ds
  | .nil, .nil => .nil
  | .cons q r, .cons q' r' => .cons ⟨_, q', q⟩ (RepL.each r r')
theorem each_back : ∀ {us : List Value} {ds : List D}, PySem.W.EachIs (fun u d => ∃ v, RelV v u ∧ Rep g F v d) us ds → ∃ vs, Vals vs us ∧ RepL g F vs ds
  | _, _, .nil => ⟨[], .nil, .nil⟩
  | _, _, .cons ⟨v, h1, h2⟩ r => by
    obtain ⟨vs, h3, h4⟩ := each_back r
    exact ⟨v :: vs, .cons h1 h3, .cons h2 h4⟩
end
end Tw

namespace Tw
open PySem PySem.Spec PyProof.Rows L2
section
variable {g : Gc} {M : List Addr} {F0 H0 F F' H H' : Hp} {σ σ' : L2.St} {env env' : Env'} {z z' : Int} {X : Cx} {D0 : Ends}
def rSortD (g : Gc) : List V → Hp → VK → Prop := fun vs H Q => ∃ (F : Hp) (a : Addr) (ws : List V) (ds : List D), vs = [.ref a] ∧ SqL g.K H a ws ∧ Same F H ∧ RepL g F ws ds ∧ sortOk ds = true ∧
  ∀ ws' p, RepL g F ws' (ds.mergeSort leD) → H p = none → Q (.ref p) (upd H p (.lst ws'))
theorem sortable_of {ds : List D} (h : sortOk ds = true) : ds.all (plainN 58) = true ∧ PySem.W.AllAlike (ds.map py) ∧ PySem.W.Sortable (ds.map py) := by
  unfold sortOk at h
  simp only [Bool.and_eq_true, Bool.or_eq_true] at h
  obtain ⟨⟨h1, h2⟩, h3⟩ := h
  refine ⟨h1, fun d hd d' hd' => ?_, ?_⟩
  · obtain ⟨a, ha, rfl⟩ := List.mem_map.mp hd
    obtain ⟨b, hb, rfl⟩ := List.mem_map.mp hd'
    exact List.all_eq_true.mp (List.all_eq_true.mp h2 a ha) b hb
  · rcases h3 with h3 | h3
    · refine .inl fun d hd => ?_
      obtain ⟨a, ha, rfl⟩ := List.mem_map.mp hd
      have := List.all_eq_true.mp h3 a ha
      match a, this with
      | .tup (x :: xs), _ => exact ⟨py x, pys xs, rfl⟩
    · refine .inr fun d hd => ?_
      obtain ⟨a, ha, rfl⟩ := List.mem_map.mp hd
      have h4 := List.all_eq_true.mp h3 a ha
      have h5 := List.all_eq_true.mp h1 a ha
      cases a <;> simp [noTup, plainN, py] at h4 h5 ⊢
theorem reads_each (I : Inv X pins σ H s) (hX : Of X g) (sb : Same F H) : ∀ {ws : List V} {us : List Value} {ds : List D}, RepL g F ws ds → Vals ws us → ds.all (plainN 58) = true → PySem.W.EachIs (fun u d => ∃ as, Reads s.heap u (py d) as) us ds
  | _, _, _, .nil, .nil, _ => .nil
  | _, _, _, .cons q r, .cons q' r', h => by
    rw [List.all_cons, Bool.and_eq_true] at h
    refine .cons ?_ (reads_each I hX sb r r' h.2)
    have := Rep.dp sb 58 _ _ h.1 q
    rw [← hX.K] at this
    exact Dp.reads I _ _ _ this q'
theorem cr_sortD (hX : Of X g) (hu : X.A.units + 64 < cLine) : CallR X (.builtin "sorted") (rSortD g) := by
  intro pins s σ H vs us Q I r h
  obtain ⟨F, a, ws, ds, rfl, hs, sb, hr, hok, q⟩ := h
  rw [← hX.K] at hs
  obtain ⟨its, rv, hl, hz⟩ := I.list hs
  rw [Vals.ref1 r]
  obtain ⟨h1, h2, h3⟩ := sortable_of hok
  have len : ds.length = ws.length := hr.length.symm
  refine PySem.W.sorted_data (R := fun u d => ∃ v, RelV v u ∧ Rep g F v d) (bs := ds) (enc := py) (vs := its) hl.isList (hr.each rv) (reads_each I hX sb hr rv h1) h2 h3 (by rw [len]; exact hz) (fun b hb => ?_) fun out ho he => ?_
  · have := (plain_ok 58 b (List.all_eq_true.mp h1 b hb)).2
    omega
  · have he' : PySem.W.EachIs (fun u d => ∃ v, RelV v u ∧ Rep g F v d) out (ds.mergeSort leD) := he
    obtain ⟨ws', k1, k2⟩ := each_back he'
    obtain ⟨ep, he2⟩ := PyProof.Rows.sortedAll_at s.heap its out.toArray
    have hlen : ws'.length ≤ sizeLine := by rw [k2.length, List.length_mergeSort, len]; exact hz
    exact ⟨.ref _, upd H (s.heap.objs.size + 1) (.lst ws'), I.laid (t' := s.toks) (fun _ _ => PyProof.Rows.sortedAll_old) (Nat.le_succ _) ⟨hlen, out, ep, k1, he2⟩, rfl, q ws' _ k2 (I.hok.fresh (Nat.le_succ _))⟩
/-- fewer than two -/
def rSort1 (K : PySem.W.Frag) : List V → Hp → VK → Prop := fun vs H Q => ∃ (a : Addr) (ws : List V), vs = [.ref a] ∧ SqL K H a ws ∧ ws.length < 2 ∧ ∀ p, H p = none → Q (.ref p) (upd H p (.lst ws))
theorem swo_no : SrtO.Swo (fun (_ _ : Value) => false) := ⟨fun _ _ h => (nomatch h), fun _ _ _ _ _ => rfl⟩
theorem stb_short {α : Type} {xs ys : List α} (h : ys.length < 2) (p : xs.Perm ys) : xs = ys := by
  match ys, h with
  | [], _ => exact List.perm_nil.mp p
  | [v], _ => exact List.perm_singleton.mp p
  | _ :: _ :: l, h => exact absurd h (by rw [List.length_cons, List.length_cons]; omega)
theorem cr_sort1 : CallR X (.builtin "sorted") (rSort1 X.K) := by
  intro pins s σ H vs us Q I r h
  obtain ⟨a, ws, rfl, hs, h2, q⟩ := h
  obtain ⟨its, rv, hl, hz⟩ := I.list hs
  rw [Vals.ref1 r]
  have hl2 : its.length < 2 := by rw [← rv.length]; exact h2
  refine SrtO.sorted_ord swo_no hl.isList (by rw [← rv.length]; exact hz) (fun h => absurd h (by omega)) fun out _ hb => ?_
  have eo : out = its := stb_short hl2 hb.perm
  subst eo
  obtain ⟨ep, he2⟩ := PyProof.Rows.sortedAll_at s.heap out out.toArray
  exact ⟨.ref _, upd H (s.heap.objs.size + 1) (.lst ws), I.laid (t' := s.toks) (fun _ _ => PyProof.Rows.sortedAll_old) (Nat.le_succ _) ⟨hz, out, ep, rv, he2⟩, rfl, q _ (I.hok.fresh (Nat.le_succ _))⟩
theorem RepL.mergeLen {ds : List D} : (ds.mergeSort leD).length = ds.length := List.length_mergeSort _
theorem blt_sorted (hX : Of X g) (hu : X.A.units + 64 < cLine) : ∃ r, CallR X (.builtin "sorted") r ∧ BltOk g dSorted r := by
  refine ⟨_, (cr_sortD hX hu).or cr_sort1, ?_⟩
  intro F H z vs ds d' fr Q s c k hf h
  have key : ∀ (a : Addr) (ws : List V) (xs : List D), vs = [.ref a] → SqL g.K H a ws → ws.length ≤ sizeLine → RepL g F ws xs → (if xs.length < 2 then some (D.lst xs, true) else if sortOk xs = true then some (.lst (xs.mergeSort leD), true) else none) = some (d', fr) → rSortD g vs H Q ∨ rSort1 X.K vs H Q := by
    intro a ws xs e hs hz hr hf
    split at hf
    · rename_i hl
      cases hf
      exact .inr ⟨a, ws, e, by rw [hX.K]; exact hs, by rw [hr.length]; exact hl, fun p hp => h _ _ _ (Step.new s c hp) (Step.freshVal s c hp hz hr)⟩
    · split at hf
      · rename_i hok
        cases hf
        exact .inl ⟨F, a, ws, xs, e, hs, s, hr, hok, fun ws' p hr' hp => h _ _ _ (Step.new s c hp) (Step.freshVal s c hp (by rw [hr'.length, RepL.mergeLen, ← hr.length]; exact hz) hr')⟩
      · cases hf
  match ds, hf with
  | [.lst xs], hf =>
    obtain ⟨x, rfl, kx⟩ := k.one
    obtain ⟨a, ws, rfl, h1, h2, h3⟩ := kx.lst s
    exact key a ws xs rfl (.inl (.inl h1)) h2 h3 hf
  | [.kst xs], hf =>
    obtain ⟨x, rfl, kx⟩ := k.one
    obtain ⟨a, ws, rfl, h1, h2, h3⟩ := kx.kst
    exact key a ws xs rfl (SqL.same s h1) h2 h3 hf

/-! tuple(x), list(x) -/
def dTuple : List D → Option (D × Bool)
  | [.lst xs] => some (.tup xs, false)
  | [.kst xs] => some (.tup xs, false)
  | [.tup xs] => some (.tup xs, false)
  | _ => none
def dList : List D → Option (D × Bool)
  | [.lst xs] => some (.lst xs, true)
  | [.kst xs] => some (.lst xs, true)
  | [.tup xs] => some (.lst xs, true)
  | _ => none
theorem blt_tuple (hX : Of X g) : ∃ r, CallR X (.type "tuple") r ∧ BltOk g dTuple r := by
  refine ⟨_, call_tuple_of, ?_⟩
  intro F H z vs ds d' fr Q s c k hf h
  match ds, hf with
  | [.lst xs], hf =>
    cases hf
    obtain ⟨x, rfl, kx⟩ := k.one
    obtain ⟨a, ws, rfl, h1, h2, h3⟩ := kx.lst s
    exact ⟨a, ws, rfl, .inl ⟨.inl (.inl h1), fun l hl => h _ _ _ (Step.newF s c hl) (Step.tupVal s hl h2 h3)⟩⟩
  | [.kst xs], hf =>
    cases hf
    obtain ⟨x, rfl, kx⟩ := k.one
    obtain ⟨a, ws, rfl, h1, h2, h3⟩ := kx.kst
    exact ⟨a, ws, rfl, .inl ⟨by rw [hX.K]; exact SqL.same s h1, fun l hl => h _ _ _ (Step.newF s c hl) (Step.tupVal s hl h2 h3)⟩⟩
  | [.tup xs], hf =>
    cases hf
    obtain ⟨x, rfl, kx⟩ := k.one
    obtain ⟨a, ws, rfl, h1, h2, h3⟩ := kx.tup
    exact ⟨a, ws, rfl, .inr ⟨by rw [hX.K]; exact SqT.same s h1, h _ F H (Step.refl s c) (.tup h1 h2 h3)⟩⟩
theorem blt_list (hX : Of X g) : ∃ r, CallR X (.type "list") r ∧ BltOk g dList r := by
  refine ⟨_, call_list_of, ?_⟩
  intro F H z vs ds d' fr Q s c k hf h
  match ds, hf with
  | [.lst xs], hf =>
    cases hf
    obtain ⟨x, rfl, kx⟩ := k.one
    obtain ⟨a, ws, rfl, h1, h2, h3⟩ := kx.lst s
    exact ⟨a, ws, rfl, .inl (.inl (.inl h1)), fun l hl => h _ _ _ (Step.new s c hl) (Step.freshVal s c hl h2 h3)⟩
  | [.kst xs], hf =>
    cases hf
    obtain ⟨x, rfl, kx⟩ := k.one
    obtain ⟨a, ws, rfl, h1, h2, h3⟩ := kx.kst
    exact ⟨a, ws, rfl, .inl (by rw [hX.K]; exact SqL.same s h1), fun l hl => h _ _ _ (Step.new s c hl) (Step.freshVal s c hl h2 h3)⟩
  | [.tup xs], hf =>
    cases hf
    obtain ⟨x, rfl, kx⟩ := k.one
    obtain ⟨a, ws, rfl, h1, h2, h3⟩ := kx.tup
    exact ⟨a, ws, rfl, .inr (by rw [hX.K]; exact SqT.same s h1), fun l hl => h _ _ _ (Step.new s c hl) (Step.freshVal s c hl h2 h3)⟩
/-! sum -/
def intsOf : List D → Option (List Int)
  | [] => some []
  | .int i :: r => (intsOf r).map (i :: ·)
  | _ => none
theorem intsOf_map : ∀ {ds : List D} {ns : List Int}, intsOf ds = some ns → ds = ns.map D.int
  | [], ns, h => by cases h; rfl
  | .int i :: r, ns, h => by
    obtain ⟨ms, h1, h2⟩ := omap (show (intsOf r).map (i :: ·) = some ns from h)
    subst h2
    rw [intsOf_map h1]; rfl
  | .non :: _, _, h => by simp [intsOf] at h
  | .bl _ :: _, _, h => by simp [intsOf] at h
  | .str _ :: _, _, h => by simp [intsOf] at h
  | .tup _ :: _, _, h => by simp [intsOf] at h
  | .lst _ :: _, _, h => by simp [intsOf] at h
  | .dic _ :: _, _, h => by simp [intsOf] at h
  | .cell :: _, _, h => by simp [intsOf] at h
  | .fn _ :: _, _, h => by simp [intsOf] at h
  | .kst _ :: _, _, h => by simp [intsOf] at h
theorem intsOf_of (ns : List Int) : intsOf (ns.map D.int) = some ns := by
  induction ns with
  | nil => rfl
  | cons n ns ih => show (intsOf (ns.map D.int)).map (n :: ·) = _; rw [ih]; rfl
def dSum : List D → Option (D × Bool)
  | [.lst xs] => (intsOf xs).map fun ns => (.int ns.sum, false)
  | [.kst xs] => (intsOf xs).map fun ns => (.int ns.sum, false)
  | [.tup xs] => (intsOf xs).map fun ns => (.int ns.sum, false)
  | _ => none
theorem sum_tupG {prog : Program} {w : World} {A : Around} {E : Value → Shared → Prop} {s : Shared} {l : Addr} {xs : Array (Int × Tok)} {Q : Value → Shared → Prop} (hh : A.handled = none) (hl : s.heap.IsTuple l (intItems xs))
    (h : ∀ h' tk t', (∀ b o, s.heap.get? b = some o → h'.get? b = some o) → Q (.int (preSum (numAt xs) xs.size) t') { s with heap := h', toks := tk }) :
    wpAny (model prog w) A (call (.builtin "sum") [.ref l]) Q E s := by
  obtain ⟨o, ho, hc, n, hd⟩ := id hl
  have hlt : l < s.heap.objs.size := Heap.lt_size ho
  refine call_sum_walkG (wpAny_pyIter_tuple hl ?_)
  refine ⟨_, _, _, _, _, _, numAt xs, rfl, Walks.tuple (A := A.in1) hh _ l (Nat.ne_of_lt hlt) (intItems xs), ⟨⟨_, Heap.get?_push_size _ rfl, rfl, rfl⟩, ⟨o, Heap.get?_push_of_some _ ho, hc, n, hd⟩⟩, fun b hb => ?_, (fun _ _ => intItems_at), fun h' tk t' hk => ?_⟩
  · rw [Heap.size_push]
    simp at hb
    rcases hb with rfl | rfl
    · exact Nat.lt_succ_self _
    · exact Nat.lt_succ_of_lt hlt
  · have := h h' tk t' fun b o e => hk b o (by simp; exact Nat.ne_of_lt (Heap.lt_size e)) (Heap.get?_push_of_some _ e)
    simpa [intItems] using this
def rSumT (K : PySem.W.Frag) : List V → Hp → VK → Prop := fun vs H Q => ∃ (a : Addr) (ns : List Int), vs = [V.ref a] ∧ SqT K H a (ns.map V.int) ∧ Q (.int ns.sum) H
theorem cr_sumT (hc : X.calm = true) : CallR X (.builtin "sum") (rSumT X.K) := by
  intro pins s σ H vs us Q I r h
  obtain ⟨a, ns, rfl, hs, q⟩ := h
  obtain ⟨its, rv, hl, _⟩ := I.tuple hs
  rw [Vals.ref1 r]
  have hi := rv.ints
  obtain ⟨xs, e⟩ := hi.allInts.items
  have hn : numsOf (intItems xs).toList = ns := by rw [← e]; exact hi.numsOf
  rw [nums_intItems] at hn
  have hl' : s.heap.IsTuple a its.toArray := hl
  rw [e] at hl'
  refine sum_tupG (I.ok.hd hc) hl' fun h' tk t' hk => ?_
  rw [preSum_eq, List.take_of_length_le (by simp), hn]
  exact ⟨.int ns.sum, H, I.kept hk, ⟨_, rfl⟩, q⟩
theorem blt_sum (hX : Of X g) : ∃ r, CallR X (.builtin "sum") r ∧ BltOk g dSum r := by
  refine ⟨_, (cr_sum hX.calm).or (cr_sumT hX.calm), ?_⟩
  intro F H z vs ds d' fr Q s c k hf h
  match ds, hf with
  | [.lst xs], hf =>
    obtain ⟨ns, h1, h2⟩ := omap hf
    cases h2
    rw [intsOf_map h1] at k
    obtain ⟨x, rfl, kx⟩ := k.one
    obtain ⟨a, ws, rfl, g1, g2, g3⟩ := kx.lst s
    rw [g3.ints] at g1
    exact .inl ⟨a, ns, rfl, .inl (.inl g1), h _ F H (Step.refl s c) (.int _)⟩
  | [.kst xs], hf =>
    obtain ⟨ns, h1, h2⟩ := omap hf
    cases h2
    rw [intsOf_map h1] at k
    obtain ⟨x, rfl, kx⟩ := k.one
    obtain ⟨a, ws, rfl, g1, g2, g3⟩ := kx.kst
    rw [g3.ints] at g1
    exact .inl ⟨a, ns, rfl, by rw [hX.K]; exact SqL.same s g1, h _ F H (Step.refl s c) (.int _)⟩
  | [.tup xs], hf =>
    obtain ⟨ns, h1, h2⟩ := omap hf
    cases h2
    rw [intsOf_map h1] at k
    obtain ⟨x, rfl, kx⟩ := k.one
    obtain ⟨a, ws, rfl, g1, g2, g3⟩ := kx.tup
    rw [g3.ints] at g1
    exact .inr ⟨a, ns, rfl, by rw [hX.K]; exact SqT.same s g1, h _ F H (Step.refl s c) (.int _)⟩
/-! int, str, abs, max, min of ints -/
def dInt : List D → Option (D × Bool)
  | [.int i] => some (.int i, false)
  | [.bl b] => some (.int (if b then 1 else 0), false)
  | _ => none
theorem blt_int (hX : Of X g) : ∃ r, CallR X (.type "int") r ∧ BltOk g dInt r := by
  refine ⟨_, call_int1, ?_⟩
  intro F H z vs ds d' fr Q s c k hf h
  match ds, hf with
  | [.int i], hf => cases hf; obtain ⟨x, rfl, kx⟩ := k.one; rw [kx.int]; exact .inl ⟨i, rfl, h _ F H (Step.refl s c) (.int _)⟩
  | [.bl b], hf => cases hf; obtain ⟨x, rfl, kx⟩ := k.one; rw [kx.bl]; exact .inr ⟨b, rfl, h _ F H (Step.refl s c) (.int _)⟩
def dAbs : List D → Option (D × Bool)
  | [.int i] => some (.int (if i < 0 then -i else i), false)
  | _ => none
theorem blt_abs (hX : Of X g) : ∃ r, CallR X (.builtin "abs") r ∧ BltOk g dAbs r := by
  refine ⟨_, call_abs, ?_⟩
  intro F H z vs ds d' fr Q s c k hf h
  match ds, hf with
  | [.int i], hf => cases hf; obtain ⟨x, rfl, kx⟩ := k.one; rw [kx.int]; exact ⟨i, rfl, h _ F H (Step.refl s c) (.int _)⟩
/-- the greatest of a list of ints -/
def maxF (x : Int) (r : List Int) : Int := r.foldl (fun a y => if y > a then y else a) x
def maxI : List Int → Int
  | [] => 0
  | x :: r => maxF x r
theorem maxF_mem : ∀ (r : List Int) (x : Int), maxF x r ∈ x :: r ∧ ∀ y ∈ x :: r, y ≤ maxF x r
  | [], x => by simp [maxF]
  | y :: r, x => by
    have ih := maxF_mem r (if y > x then y else x)
    show maxF (if y > x then y else x) r ∈ _ ∧ ∀ w ∈ _, w ≤ maxF (if y > x then y else x) r
    obtain ⟨h1, h2⟩ := ih
    refine ⟨?_, fun w hw => ?_⟩
    · rcases List.mem_cons.mp h1 with e | e
      · rw [e]; split <;> simp
      · exact List.mem_cons_of_mem _ (List.mem_cons_of_mem _ e)
    · have h3 := h2 (if y > x then y else x) List.mem_cons_self
      have h4 : x ≤ maxF (if y > x then y else x) r ∧ y ≤ maxF (if y > x then y else x) r := by
        revert h3
        generalize maxF (if y > x then y else x) r = m
        intro h3
        split at h3 <;> omega
      rcases List.mem_cons.mp hw with rfl | hw
      · exact h4.1
      · rcases List.mem_cons.mp hw with rfl | hw
        · exact h4.2
        · exact h2 w (List.mem_cons_of_mem _ hw)
theorem maxI_mem : ∀ {xs : List Int}, xs ≠ [] → maxI xs ∈ xs ∧ ∀ y ∈ xs, y ≤ maxI xs
  | x :: r, _ => maxF_mem r x
theorem max_unique {xs : List Int} {m : Int} (h1 : m ∈ xs) (h2 : ∀ y ∈ xs, y ≤ m) : m = maxI xs := by
  obtain ⟨h3, h4⟩ := maxI_mem (xs := xs) (fun e => by subst e; cases h1)
  have a := h4 m h1
  have b := h2 _ h3
  omega
def dMax : List D → Option (D × Bool)
  | [.int i, .int j] => some (.int (if j > i then j else i), false)
  | [.lst xs] => match intsOf xs with
    | some (n :: ns) => some (.int (maxI (n :: ns)), false)
    | _ => none
  | _ => none
theorem blt_max (hX : Of X g) : ∃ r, CallR X (.builtin "max") r ∧ BltOk g dMax r := by
  refine ⟨_, (call_max2 hX.calm).or (cr_max hX.calm), ?_⟩
  intro F H z vs ds d' fr Q s c k hf h
  match ds, hf with
  | [.int i, .int j], hf =>
    cases hf
    obtain ⟨x, y, rfl, kx, ky⟩ := k.two
    rw [kx.int, ky.int]
    exact .inl ⟨i, j, rfl, h _ F H (Step.refl s c) (.int _)⟩
  | [.lst xs], hf =>
    simp only [dMax] at hf
    split at hf
    · rename_i n ns h1
      cases hf
      rw [intsOf_map h1] at k
      obtain ⟨x, rfl, kx⟩ := k.one
      obtain ⟨a, ws, rfl, g1, g2, g3⟩ := kx.lst s
      rw [g3.ints] at g1
      refine .inr ⟨a, n :: ns, rfl, .inl (.inl g1), by simp, fun m hm hle => ?_⟩
      rw [max_unique hm hle]
      exact h _ F H (Step.refl s c) (.int _)
    · cases hf
def dMin : List D → Option (D × Bool)
  | [.int i, .int j] => some (.int (if j < i then j else i), false)
  | _ => none
theorem blt_min (hX : Of X g) : ∃ r, CallR X (.builtin "min") r ∧ BltOk g dMin r := by
  refine ⟨_, call_min2 hX.calm, ?_⟩
  intro F H z vs ds d' fr Q s c k hf h
  match ds, hf with
  | [.int i, .int j], hf =>
    cases hf
    obtain ⟨x, y, rfl, kx, ky⟩ := k.two
    rw [kx.int, ky.int]
    exact ⟨i, j, rfl, h _ F H (Step.refl s c) (.int _)⟩

/-! isinstance with one built-in class -/
def tyD : D → Option String
  | .non => some "NoneType"
  | .bl _ => some "bool"
  | .int _ => some "int"
  | .str _ => some "str"
  | .tup _ => some "tuple"
  | .lst _ => some "list"
  | _ => none
def isTy (T : String) (t : String) : Bool := T == t || (t == "bool" && T == "int")
def dIsi (T : String) (d : D) : Option (D × Bool) := (tyD d).map fun t => (.bl (isTy T t), false)
theorem kit_all {K : PySem.W.Frag} : ∀ T ∈ ["list", "tuple", "str", "int", "bool", "dict"], ∀ t ∈ ["NoneType", "bool", "int", "str", "tuple", "list"], PySem.W.kitOne K (.type t) (.type T) = some (isTy T t) := by
  intro T hT t ht
  simp only [List.mem_cons, List.not_mem_nil, or_false] at hT ht
  rcases hT with rfl | rfl | rfl | rfl | rfl | rfl <;> rcases ht with rfl | rfl | rfl | rfl | rfl | rfl <;> exact kit_ty (by decide +kernel)
theorem Pk.tyx {x : V} {d : D} {t : String} (s : Same F H) (k : Pk g F H x d) (h : tyD d = some t) : TyX g.K H x (.type t) ∧ t ∈ ["NoneType", "bool", "int", "str", "tuple", "list"] := by
  cases d with
  | non => cases h; rw [k.non]; exact ⟨.base .non, by simp⟩
  | bl b => cases h; rw [k.bl]; exact ⟨.base (.bl _), by simp⟩
  | int i => cases h; rw [k.int]; exact ⟨.base (.int _), by simp⟩
  | str i => cases h; rw [k.str.1]; exact ⟨.base (.str _), by simp⟩
  | tup ds =>
    cases h
    obtain ⟨a, vs, rfl, h1, h2, h3⟩ := k.tup
    refine ⟨?_, by simp⟩
    rcases h1 with (h1 | ⟨o, h1⟩) | ⟨o, its, n, h1, hc, _⟩
    · exact .base (.tup (s _ _ h1))
    · exact .fTuple (s _ _ h1)
    · exact .kTuple h1 hc
  | lst ds =>
    cases h
    obtain ⟨a, vs, rfl, h1, h2, h3⟩ := k.lst s
    exact ⟨.base (.lst h1), by simp⟩
  | _ => simp [tyD] at h
theorem ee_isi {T : String} {x : Str} {a : Expr} {p p2 pos : Pos} {m : OM} (hX : Of X g) (hm : g.mg "isinstance" = none) (hmT : g.mg x = none) (hT : T ∈ ["list", "tuple", "str", "int", "bool", "dict"]) (hv : bootBuiltins x = some (.type T)) (ha : OE X g a m) (hg : Gl X "isinstance" := by rfl) (hgT : Gl X x := by rfl)
    (hn : x ≠ "__name__" := by decide) (hdb : (x == ("__debug__" : Str)) = false := by decide)
    (he : starEach [a, .Name x p2] X.env = (false, eval a X.env) :: starEach [.Name x p2] X.env := by rfl) (he2 : starEach [.Name x p2] X.env = (false, eval (.Name x p2) X.env) :: starEach [] X.env := by rfl) (hpl : (backTo pos (starEach [.Name x p2] X.env)).any (·.1) = false := by rfl) :
    EE X g (.Call (.Name "isinstance" p) [a, .Name x p2] [] pos) (mUn (dIsi T) m) :=
  PE.imp (pe_callB call_isi hg (by rw [hX.mg]; exact hm) boot_isinstance (pa_cons ha (pa_cons (pe_bltn (v := .ty T) hgT (by rw [hX.mg]; exact hmT) hv rfl hn hdb) pa_nil he2) he) (by decide) (by decide) he hpl) fun σ H Q ⟨F, env, z, d, fr, z', sr, e, h⟩ => by
    obtain ⟨⟨d0, z1⟩, q1, e⟩ := obind e
    obtain ⟨w, q2, e⟩ := omap e
    obtain ⟨t, q3, q4⟩ := omap q2
    subst q4
    simp only [Prod.mk.injEq] at e
    obtain ⟨rfl, rfl, rfl⟩ := e
    refine tP.at sr q1 fun v F1 H1 s1 k1 => ?_
    obtain ⟨ty, ht⟩ := k1.tyx s1.sub q3
    rw [hX.K]
    exact ⟨v, .ty T, .type t, .type T, _, rfl, .ty T, ty, kit_all T hT t ht, h _ F1 H1 s1 (.bl _)⟩
end
end Tw

namespace Tw
open PySem PySem.Spec PyProof.Rows L2
section
variable {g : Gc} {M : List Addr} {F0 H0 F F' H H' : Hp} {σ σ' : L2.St} {env env' : Env'} {z z' : Int} {X : Cx} {D0 : Ends}
/-! ### name = [..] on one line -/
theorem set_post {i : Nat} {m : EM} {D : Ends} (hh : tS g M (sSet i m) D σ H) : tE g m σ H (fun x H1 => gName i x σ H1 D.nx) := by
  obtain ⟨F0, H0, F, env, z, r, h⟩ := hh
  unfold sSet at h
  split at h
  · rename_i d fr z' q
    exact tE.sh r.sr q fun v F' H' s k => h _ F' H' ((r.step s).setSh k)
  · exact h.elim
theorem setO_post {i : Nat} {m : EM} {D : Ends} (hh : tS g M (sSetO i m) D σ H) : tE g m σ H (fun x H1 => gName i x σ H1 D.nx) := by
  obtain ⟨F0, H0, F, env, z, r, h⟩ := hh
  unfold sSetO at h
  split at h
  · rename_i d z' q
    exact tE.at r.sr q fun v F' H' s k => h _ F' H' (r.valOw s k)
  · rename_i d z' q
    exact tE.at r.sr q fun v F' H' s k => h _ F' H' ((r.step s).setSh k)
  · exact h.elim
/-- what a comprehension's parts are to give -/
structure Parts (X : Cx) (g : Gc) (elt tg iter : Expr) (ifs : List Expr) (scope : Scope) (own : List (Str × Nat)) (it : IM) (b : BM) (ts : List Nat) (t : TM) (e : EM) : Prop where
  hi : IE X g true tg iter it
  ok : BlkOk X.N X.env.scope scope own
  hg : ∀ (s : Shared) (H : Hp) (C : Addr) (cl : List (Str × Addr)) (fp : List Addr), GE (X.blk s H scope (compEnvC scope cl C X.env) fp) g tg ts b
  ht : ∀ (s : Shared) (H : Hp) (C : Addr) (cl : List (Str × Addr)) (fp : List Addr), PTs' (X.blk s H scope (compEnvC scope cl C X.env) fp) g ifs t
  he : ∀ (s : Shared) (H : Hp) (C : Addr) (cl : List (Str × Addr)) (fp : List Addr), EE (X.blk s H scope (compEnvC scope cl C X.env) fp) g elt e
  hts : ts.all (fun i => (own.map (·.2)).contains i) = true
theorem ee_lc {elt tg iter : Expr} {ifs : List Expr} {scope : Scope} {own : List (Str × Nat)} {pos : Pos} {it : IM} {b : BM} {ts : List Nat} {t : TM} {e : EM} (hX : Of X g) (hN : X.N.Nodup) (p : Parts X g elt tg iter ifs scope own it b ts t e) (hs : ∀ x, foldedSetIterable iter X.env x = pure x := by intro _; rfl) :
    EE X g (.ListComp elt [⟨tg, iter, ifs, 0⟩] scope pos) (eComp (own.map (·.2)) it b t e) := ee_comp own hX hN p.hi p.ok p.hg p.ht p.he p.hts hs
theorem ss_setLc (i : Nat) {y : Str} {py : Pos} {elt tg iter : Expr} {ifs : List Expr} {scope : Scope} {own : List (Str × Nat)} {pos spos : Pos} {it : IM} {b : BM} {ts : List Nat} {t : TM} {e : EM} (hX : Of X g) (hN : X.N.Nodup) (p : Parts X g elt tg iter ifs scope own it b ts t e)
    (hsw : swapsWith (.ListComp elt [⟨tg, iter, ifs, 0⟩] scope pos) (some (.Name y py)) spos.line X.env = pure true) (hy : X.N[i]? = some y := by rfl) (hyl : X.env.scope.names.lookup y = some .local := by rfl) (hs : ∀ x, foldedSetIterable iter X.env x = pure x := by intro _; rfl) :
    SS X g M (.Assign [.Name y py] (.ListComp elt [⟨tg, iter, ifs, 0⟩] scope pos) spos) (sSet i (eComp (own.map (·.2)) it b t e)) :=
  PS.imp (ps_setLc hX.calm hN hy hyl hsw p.hi p.ok p.hg p.ht p.he hs) fun D σ H h => comp_imp (sub_of p.hts) σ H _ (set_post h)
theorem ss_setLcO (i : Nat) {y : Str} {py : Pos} {elt tg iter : Expr} {ifs : List Expr} {scope : Scope} {own : List (Str × Nat)} {pos spos : Pos} {it : IM} {b : BM} {ts : List Nat} {t : TM} {e : EM} (hX : Of X g) (hN : X.N.Nodup) (p : Parts X g elt tg iter ifs scope own it b ts t e)
    (hsw : swapsWith (.ListComp elt [⟨tg, iter, ifs, 0⟩] scope pos) (some (.Name y py)) spos.line X.env = pure true) (hy : X.N[i]? = some y := by rfl) (hyl : X.env.scope.names.lookup y = some .local := by rfl) (hs : ∀ x, foldedSetIterable iter X.env x = pure x := by intro _; rfl) :
    SS X g M (.Assign [.Name y py] (.ListComp elt [⟨tg, iter, ifs, 0⟩] scope pos) spos) (sSetO i (eComp (own.map (·.2)) it b t e)) :=
  PS.imp (ps_setLc hX.calm hN hy hyl hsw p.hi p.ok p.hg p.ht p.he hs) fun D σ H h => comp_imp (sub_of p.hts) σ H _ (setO_post h)

/-! ### two for in a comprehension -/
def compL2 (b : BM) (t : TM) (it1 : IM) (vs1 : List Nat) (b1 : BM) (t1 : TM) (e : EM) (env : Env') : List D → Int → Option (List D × Int)
  | [], z => some ([], z)
  | d :: ds, z => (b d env).bind fun env1 => (t env1 z).bind fun p => if p.1 = true then (it1 env1 p.2).bind fun q => (compL b1 t1 e (wipeE env1 vs1) q.1 q.2).bind fun r1 => (compL2 b t it1 vs1 b1 t1 e env ds r1.2).map fun r => (r1.1 ++ r.1, r.2)
    else compL2 b t it1 vs1 b1 t1 e env ds p.2
def eComp2 (vs : List Nat) (it : IM) (b : BM) (t : TM) (it1 : IM) (vs1 : List Nat) (b1 : BM) (t1 : TM) (e : EM) : EM := fun env z => (it env z).bind fun p => (compL2 b t it1 vs1 b1 t1 e (wipeE env vs) p.1 p.2).bind fun r => if r.1.length ≤ lim then some (.lst r.1, true, r.2) else none
structure Parts2 (X : Cx) (g : Gc) (elt tg iter tg1 iter1 : Expr) (ifs ifs1 : List Expr) (scope : Scope) (own : List (Str × Nat)) (it : IM) (b : BM) (ts : List Nat) (t : TM) (it1 : IM) (vs1 : List Nat) (b1 : BM) (ts1 : List Nat) (t1 : TM) (e : EM) : Prop where
  hi : IE X g true tg iter it
  ok : BlkOk X.N X.env.scope scope own
  hg : ∀ (s : Shared) (H : Hp) (C : Addr) (cl : List (Str × Addr)) (fp : List Addr), GE (X.blk s H scope (compEnvC scope cl C X.env) fp) g tg ts b
  ht : ∀ (s : Shared) (H : Hp) (C : Addr) (cl : List (Str × Addr)) (fp : List Addr), PTs' (X.blk s H scope (compEnvC scope cl C X.env) fp) g ifs t
  hi1 : ∀ (s : Shared) (H : Hp) (C : Addr) (cl : List (Str × Addr)) (fp : List Addr), IE (X.blk s H scope (compEnvC scope cl C X.env) fp) g false tg1 iter1 it1
  hg1 : ∀ (s : Shared) (H : Hp) (C : Addr) (cl : List (Str × Addr)) (fp : List Addr), GE (X.blk s H scope (compEnvC scope cl C X.env) fp) g tg1 ts1 b1
  ht1 : ∀ (s : Shared) (H : Hp) (C : Addr) (cl : List (Str × Addr)) (fp : List Addr), PTs' (X.blk s H scope (compEnvC scope cl C X.env) fp) g ifs1 t1
  he : ∀ (s : Shared) (H : Hp) (C : Addr) (cl : List (Str × Addr)) (fp : List Addr), EE (X.blk s H scope (compEnvC scope cl C X.env) fp) g elt e
  hts : ts.all (fun i => (own.map (·.2)).contains i) = true
  hts1 : ts1.all (fun i => vs1.contains i) = true
  hvs : vs1.all (fun i => (own.map (·.2)).contains i) = true
theorem sub_of' {vs ts : List Nat} (hts : ts.all (fun i => vs.contains i) = true) : ∀ j, j ∉ vs → j ∉ ts := fun j hj hm => hj (by
  have := List.all_eq_true.mp hts j hm
  simpa using this)
theorem Step.put {z : Int} {D : Addr} {acc' : List V} {F1 H1 F2 H2 : Hp} (st : Step g F1 H1 F2 H2 z) (fD : F2 D = none) (hD : H1 D = none) (cD : g.cl ≠ some D) : Step g F1 H1 F2 (upd H2 D (.lst acc')) z := by
  refine ⟨fun a u q => ?_, st.grow, st.fr, fun a u c q => ?_, fun c q => ?_⟩
  · rw [upd_ne (fun e => by subst e; rw [fD] at q; cases q)]; exact st.sub _ _ q
  · rw [upd_ne (fun e => by subst e; rw [hD] at q; cases q)]; exact st.keep a u c q
  · have ⟨c1, c2⟩ := st.cell c q
    exact ⟨by rw [upd_ne (fun e => cD (by rw [← e]; exact q))]; exact c1, c2⟩
theorem wipeE_ow {l : Nat} {d : D} : ∀ {vs : List Nat}, (wipeE env vs)[l]? = some (.ow d) → env[l]? = some (.ow d) ∧ l ∉ vs
  | [], h => ⟨h, by simp⟩
  | v :: vs, h => by
    unfold wipeE at h
    have nj : v ≠ l := fun q => by
      subst q
      rw [List.getElem?_set] at h
      split at h
      · split at h <;> cases h
      · contradiction
    rw [List.getElem?_set_ne nj] at h
    obtain ⟨h1, h2⟩ := wipeE_ow h
    exact ⟨h1, fun q => (List.mem_cons.mp q).elim (fun e => nj e.symm) h2⟩
theorem comp2_imp {vs vs1 : List Nat} {it it1 : IM} {b b1 : BM} {ts ts1 : List Nat} {t t1 : TM} {e : EM} (sub : ∀ j, j ∉ vs → j ∉ ts) (sub1 : ∀ j, j ∉ vs1 → j ∉ ts1) (σ : L2.St) (H : Hp) (Q : VK) (hh : tE g (eComp2 vs it b t it1 vs1 b1 t1 e) σ H Q) :
    tLc2 (tI g true it) (tG g ts b) (tT g t) (tI g false it1) (tG g ts1 b1) (tT g t1) (tE g e) vs vs1 σ H Q := by
  obtain ⟨F, env, z, d, fr, z', sr, ev, h⟩ := hh
  obtain ⟨⟨ds, z1⟩, q1, ev⟩ := obind ev
  obtain ⟨⟨res, zf⟩, q2, ev⟩ := obind ev
  split at ev
  rotate_left
  · cases ev
  rename_i hlim
  simp only [Option.some.injEq, Prod.mk.injEq] at ev
  obtain ⟨rfl, rfl, rfl⟩ := ev
  refine ⟨F, env, z, ds, z1, sr, q1, fun J F1 H1 s1 hlen dv D hD => ?_⟩
  have sD : Step g F1 H1 F1 (upd H1 D (.lst [])) z1 := Step.new s1.sub s1.cell hD
  have cD : g.cl ≠ some D := cell_ne s1.cell hD
  have hlim' : res.length ≤ lim := hlim
  refine ⟨fun i m H => i + m = ds.length ∧ ∃ F z acc accD rest, Step g F1 H1 F H z ∧ F D = none ∧ H D = some (.lst acc) ∧ RepL g F acc accD ∧ compL2 b t it1 vs1 b1 t1 e (wipeE env vs) (ds.drop i) z = some (rest, zf) ∧ accD ++ rest = res,
    ⟨ds.length, by omega, F1, z1, [], [], res, sD, sub_none s1.sub hD, upd_same, .nil, q2, rfl⟩, ?_⟩
  rintro i m H2 ⟨him, F2, z2, acc, accD, rest, st, fD, hHD, hrep, hc, hres⟩
  obtain ⟨go, stop⟩ := dv F2 H2 st.grow st.sub (fun _ => st.keep)
  by_cases hi : i < ds.length
  · refine .inr ?_
    have hd : ds.drop i = ds[i] :: ds.drop (i + 1) := List.drop_eq_getElem_cons hi
    rw [hd] at hc
    simp only [compL2] at hc
    obtain ⟨env3, q3, hc⟩ := obind hc
    obtain ⟨⟨bb, z3⟩, q4, hc⟩ := obind hc
    obtain ⟨g1, y1⟩ := go i ds[i] (List.getElem?_eq_getElem hi)
    refine ⟨g1, fun H => ∃ F z acc accD rest, Step g F1 H1 F H z ∧ F D = none ∧ H D = some (.lst acc) ∧ RepL g F acc accD ∧ compL2 b t it1 vs1 b1 t1 e (wipeE env vs) (ds.drop (i + 1)) z = some (rest, zf) ∧ accD ++ rest = res, fun H' n => ⟨m - 1, by omega, by omega, n⟩, fun x H3 y => ?_⟩
    obtain ⟨F3, s3, kx⟩ := y1 x H3 y
    have s3 := s3 z2 st.cell
    have srw : SR g F3 H3 (L2.wipe σ vs) (wipeE env vs) z2 := ((sr.step s1).wipe _).step (st.trans s3)
    refine ⟨F3, _, z2, ds[i], env3, srw, kx, q3, fun σ4 sto => ?_⟩
    refine ⟨?_, ?_⟩
    · refine (wipe_eq sto.len fun j hj => sto.els j (sub j hj)).trans (wipe_wipe _ _)
    refine tT.at sto.sr q4 fun F5 H5 s5 => ?_
    have H2D : H2 D ≠ none := by rw [hHD]; simp
    have f3D : F3 D = none := s3.fr D H2D fD
    have h3D : H3 D = some (.lst acc) := s3.keep D _ cD hHD
    have f5D : F5 D = none := s5.fr D (by rw [h3D]; simp) f3D
    have h5D : H5 D = some (.lst acc) := s5.keep D _ cD h3D
    have st5 := (st.trans s3).trans s5
    cases bb with
    | false =>
      rw [if_neg Bool.false_ne_true] at hc
      rw [if_neg Bool.false_ne_true]
      exact ⟨F5, z3, acc, accD, rest, st5, f5D, h5D, hrep.same (s3.grow.trans s5.grow), hc, hres⟩
    | true =>
      rw [if_pos rfl] at hc
      rw [if_pos rfl]
      obtain ⟨⟨ds1, z6⟩, q6, hc⟩ := obind hc
      obtain ⟨⟨r1, z7⟩, q7, hc⟩ := obind hc
      obtain ⟨⟨r8, z8⟩, q8, hc⟩ := omap hc
      simp only [Prod.mk.injEq] at hc
      obtain ⟨hc1, hc2⟩ := hc
      subst hc2
      have sr5 := sto.sr.step s5
      refine ⟨F5, env3, z3, ds1, z6, sr5, q6, fun J1 F6 H6 s6 hlen1 dv1 => ?_⟩
      have f6D : F6 D = none := s6.fr D (by rw [h5D]; simp) f5D
      have h6D : H6 D = some (.lst acc) := s6.keep D _ cD h5D
      have st6 := st5.trans s6
      refine ⟨fun j k H => j + k = ds1.length ∧ ∃ F z acc acc1 rest1, Step g F1 H1 F H z ∧ Same F6 F ∧ F D = none ∧ H D = some (.lst acc) ∧ RepL g F acc (accD ++ acc1) ∧ compL b1 t1 e (wipeE env3 vs1) (ds1.drop j) z = some (rest1, z7) ∧ acc1 ++ rest1 = r1,
        ⟨ds1.length, by omega, F6, z6, acc, [], r1, st6, Same.refl _, f6D, h6D, by rw [List.append_nil]; exact hrep.same ((s3.grow.trans s5.grow).trans s6.grow), q7, rfl⟩, ?_⟩
      rintro j k H7 ⟨hjk, F7, z9, acc7, acc1, rest1, st7, g7, f7D, h7D, hrep7, hc7, hres7⟩
      obtain ⟨go1, stop1⟩ := dv1 F7 H7 g7 st7.sub (fun q => nomatch q)
      by_cases hj : j < ds1.length
      · refine .inr ?_
        have hd1 : ds1.drop j = ds1[j] :: ds1.drop (j + 1) := List.drop_eq_getElem_cons hj
        rw [hd1] at hc7
        simp only [compL] at hc7
        obtain ⟨env8, p3, hc7⟩ := obind hc7
        obtain ⟨⟨bb1, z10⟩, p4, hc7⟩ := obind hc7
        obtain ⟨g2, y2⟩ := go1 j ds1[j] (List.getElem?_eq_getElem hj)
        refine ⟨g2, fun H => ∃ F z acc acc1 rest1, Step g F1 H1 F H z ∧ Same F6 F ∧ F D = none ∧ H D = some (.lst acc) ∧ RepL g F acc (accD ++ acc1) ∧ compL b1 t1 e (wipeE env3 vs1) (ds1.drop (j + 1)) z = some (rest1, z7) ∧ acc1 ++ rest1 = r1, fun H' n => ⟨k - 1, by omega, by omega, n⟩, fun x8 H8 y => ?_⟩
        obtain ⟨F8, s8, kx8⟩ := y2 x8 H8 y
        have s8 := s8 z9 st7.cell
        have srw8 : SR g F8 H8 (L2.wipe σ4 vs1) (wipeE env3 vs1) z9 := by
          have a0 := (sto.sr.step s5).wipe vs1
          have a8 := ((sr.step s1).step (st7.trans s8)).wipe vs
          refine ⟨(st7.trans s8).sub, (st7.trans s8).cell, a0.len, fun l sl el => ?_, a0.inj⟩
          have a1 := a0.at_ l sl el
          cases sl with
          | un => trivial
          | sh d1 => obtain ⟨v1, b1', b2⟩ := a1; exact ⟨v1, b1', b2.same ((s6.grow.trans g7).trans s8.grow)⟩
          | ow d1 =>
            obtain ⟨e1, e2⟩ := wipeE_ow el
            obtain ⟨e3, e4⟩ := sto.own l d1 e1
            obtain ⟨p1, b1', b2, b3, b4⟩ := a8.at_ l _ e3
            exact ⟨p1, by rw [wipe_wipe.wipe_out' e2, e4]; exact b1', b2, b3, b4⟩
        refine ⟨F8, _, z9, ds1[j], env8, srw8, kx8, p3, fun σ9 sto9 => ?_⟩
        refine ⟨?_, ?_⟩
        · refine (wipe_eq sto9.len fun j hj => sto9.els j (sub1 j hj)).trans (wipe_wipe _ _)
        refine tT.at sto9.sr p4 fun F10 H10 s10 => ?_
        have f8D : F8 D = none := s8.fr D (by rw [h7D]; simp) f7D
        have h8D : H8 D = some (.lst acc7) := s8.keep D _ cD h7D
        have f10D : F10 D = none := s10.fr D (by rw [h8D]; simp) f8D
        have h10D : H10 D = some (.lst acc7) := s10.keep D _ cD h8D
        have st10 := (st7.trans s8).trans s10
        cases bb1 with
        | false =>
          rw [if_neg Bool.false_ne_true] at hc7
          rw [if_neg Bool.false_ne_true]
          exact ⟨F10, z10, acc7, acc1, rest1, st10, (g7.trans s8.grow).trans s10.grow, f10D, h10D, hrep7.same (s8.grow.trans s10.grow), hc7, hres7⟩
        | true =>
          rw [if_pos rfl] at hc7
          rw [if_pos rfl]
          obtain ⟨⟨yd, yfr, z11⟩, p6, hc7⟩ := obind hc7
          obtain ⟨⟨r12, z12⟩, p7, hc7⟩ := omap hc7
          simp only [Prod.mk.injEq] at hc7
          obtain ⟨hc8, hc9⟩ := hc7
          subst hc9
          refine tE.sh (sto9.sr.step s10) p6 fun v F11 H11 s11 k11 => ?_
          have f11D : F11 D = none := s11.fr D (by rw [h10D]; simp) f10D
          have h11D : H11 D = some (.lst acc7) := s11.keep D _ cD h10D
          have st11 := st10.trans s11
          have hl : acc7.length < lim := by
            have e1 : acc7.length = accD.length + acc1.length := by rw [hrep7.length, List.length_append]
            have e2 : res.length = accD.length + (r1.length + r8.length) := by rw [← hres, ← hc1, List.length_append, List.length_append]
            have e3 : r1.length = acc1.length + (r12.length + 1) := by rw [← hres7, ← hc8, List.length_append, List.length_cons]
            omega
          refine ⟨acc7, h11D, by rw [lim_eq]; exact hl, F11, z11, acc7 ++ [v], acc1 ++ [yd], r12, st11.put f11D hD cD, ((g7.trans s8.grow).trans s10.grow).trans s11.grow, f11D, upd_same, ?_, p7, ?_⟩
          · rw [← List.append_assoc]
            exact (hrep7.same ((s8.grow.trans s10.grow).trans s11.grow)).append (.cons k11 .nil)
          · rw [List.append_assoc, List.singleton_append, hc8]; exact hres7
      · refine .inl ⟨stop1 j (by omega), ?_⟩
        rw [List.drop_eq_nil_of_le (by omega)] at hc7
        simp only [compL, Option.some.injEq, Prod.mk.injEq] at hc7
        obtain ⟨rfl, rfl⟩ := hc7
        rw [List.append_nil] at hres7
        subst hres7
        exact ⟨F7, z9, acc7, accD ++ acc1, r8, st7, f7D, h7D, hrep7, q8, by rw [List.append_assoc, hc1]; exact hres⟩
  · refine .inl ⟨stop i (by omega), ?_⟩
    rw [List.drop_eq_nil_of_le (by omega)] at hc
    simp only [compL2, Option.some.injEq, Prod.mk.injEq] at hc
    obtain ⟨rfl, rfl⟩ := hc
    rw [List.append_nil] at hres
    subst hres
    refine h _ F2 H2 (s1.trans st) ⟨D, rfl, ?_, fD, cD, .lst hHD (by rw [lim_eq, hrep.length]; exact hlim') hrep⟩
    cases hq : H D with
    | none => rfl
    | some u => exact absurd hD (s1.there (by rw [hq]; simp))
theorem ee_lc2 {elt tg iter tg1 iter1 : Expr} {ifs ifs1 : List Expr} {scope : Scope} {own : List (Str × Nat)} {pos : Pos} {it it1 : IM} {b b1 : BM} {ts ts1 vs1 : List Nat} {t t1 : TM} {e : EM} (hX : Of X g) (hN : X.N.Nodup) (p : Parts2 X g elt tg iter tg1 iter1 ifs ifs1 scope own it b ts t it1 vs1 b1 ts1 t1 e)
    (hs : ∀ x, foldedSetIterable iter X.env x = pure x := by intro _; rfl) (hs1 : ∀ env x, foldedSetIterable iter1 env x = pure x := by intro _ _; rfl) :
    EE X g (.ListComp elt [⟨tg, iter, ifs, 0⟩, ⟨tg1, iter1, ifs1, 0⟩] scope pos) (eComp2 (own.map (·.2)) it b t it1 vs1 b1 t1 e) :=
  PE.imp (pe_lc2 hX.calm hN p.hi p.ok (fun i hi => by have := List.all_eq_true.mp p.hvs i hi; simpa using this) p.hg p.ht p.hi1 p.hg1 p.ht1 p.he hs hs1) fun σ H Q h => comp2_imp (sub_of p.hts) (sub_of' p.hts1) σ H Q h
theorem ss_setLc2 (i : Nat) {y : Str} {py : Pos} {elt tg iter tg1 iter1 : Expr} {ifs ifs1 : List Expr} {scope : Scope} {own : List (Str × Nat)} {pos spos : Pos} {it it1 : IM} {b b1 : BM} {ts ts1 vs1 : List Nat} {t t1 : TM} {e : EM} (hX : Of X g) (hN : X.N.Nodup) (p : Parts2 X g elt tg iter tg1 iter1 ifs ifs1 scope own it b ts t it1 vs1 b1 ts1 t1 e)
    (hsw : swapsWith (.ListComp elt [⟨tg, iter, ifs, 0⟩, ⟨tg1, iter1, ifs1, 0⟩] scope pos) (some (.Name y py)) spos.line X.env = pure true) (hy : X.N[i]? = some y := by rfl) (hyl : X.env.scope.names.lookup y = some .local := by rfl) (hs : ∀ x, foldedSetIterable iter X.env x = pure x := by intro _; rfl) (hs1 : ∀ env x, foldedSetIterable iter1 env x = pure x := by intro _ _; rfl) :
    SS X g M (.Assign [.Name y py] (.ListComp elt [⟨tg, iter, ifs, 0⟩, ⟨tg1, iter1, ifs1, 0⟩] scope pos) spos) (sSet i (eComp2 (own.map (·.2)) it b t it1 vs1 b1 t1 e)) :=
  PS.imp (ps_setLc2 hX.calm hN hy hyl hsw p.hi p.ok (fun i hi => by have := List.all_eq_true.mp p.hvs i hi; simpa using this) p.hg p.ht p.hi1 p.hg1 p.ht1 p.he hs hs1) fun D σ H h => comp2_imp (sub_of p.hts) (sub_of' p.hts1) σ H _ (set_post h)
theorem ss_setLc2O (i : Nat) {y : Str} {py : Pos} {elt tg iter tg1 iter1 : Expr} {ifs ifs1 : List Expr} {scope : Scope} {own : List (Str × Nat)} {pos spos : Pos} {it it1 : IM} {b b1 : BM} {ts ts1 vs1 : List Nat} {t t1 : TM} {e : EM} (hX : Of X g) (hN : X.N.Nodup) (p : Parts2 X g elt tg iter tg1 iter1 ifs ifs1 scope own it b ts t it1 vs1 b1 ts1 t1 e)
    (hsw : swapsWith (.ListComp elt [⟨tg, iter, ifs, 0⟩, ⟨tg1, iter1, ifs1, 0⟩] scope pos) (some (.Name y py)) spos.line X.env = pure true) (hy : X.N[i]? = some y := by rfl) (hyl : X.env.scope.names.lookup y = some .local := by rfl) (hs : ∀ x, foldedSetIterable iter X.env x = pure x := by intro _; rfl) (hs1 : ∀ env x, foldedSetIterable iter1 env x = pure x := by intro _ _; rfl) :
    SS X g M (.Assign [.Name y py] (.ListComp elt [⟨tg, iter, ifs, 0⟩, ⟨tg1, iter1, ifs1, 0⟩] scope pos) spos) (sSetO i (eComp2 (own.map (·.2)) it b t it1 vs1 b1 t1 e)) :=
  PS.imp (ps_setLc2 hX.calm hN hy hyl hsw p.hi p.ok (fun i hi => by have := List.all_eq_true.mp p.hvs i hi; simpa using this) p.hg p.ht p.hi1 p.hg1 p.ht1 p.he hs hs1) fun D σ H h => comp2_imp (sub_of p.hts) (sub_of' p.hts1) σ H _ (setO_post h)

/-! ### x[k] = e, x a list of one's own -/
def sSetIx (i : Nat) (k : OM) (m : EM) : SM := fun env z => match m env z with
  | some (d, _, z1) => match env[i]? with
    | some (.ow (.lst xs)) => match k env z1 with
      | some (.int j, z2) => match ixN xs.length j with
        | some n => .nx (env.set i (.ow (.lst (xs.set n d)))) z2
        | none => .bad
      | _ => .bad
    | _ => .bad
  | none => .bad
theorem ss_setIx (i : Nat) {x : Str} {e k : Expr} {p1 p2 pos : Pos} {m : EM} {mk : OM} (he : EE X g e m) (hk : OE X g k mk) (hN : X.N[i]? = some x := by rfl) (hv : Vis X.env.scope x := by first | exact Or.inl rfl | exact Or.inr (Or.inl rfl) | exact Or.inr (Or.inr rfl)) (hd : (x == ("__debug__" : Str)) = false := by decide)
    (hcd : (x == ("__classdict__" : Str)) = false := by decide)
    (ha : ∀ v, assign (.Subscript (.Name x p1) k p2) X.env v = (do
      let ov ← holding [v] (eval (.Name x p1) X.env)
      let iv ← holding [v, ov] (eval k X.env)
      standAt p2
      holding [v, ov, iv] (setItem ov iv v)
      release [v, ov, iv] []) := by intro _; rfl)
    (hs : swapsWithSole [.Subscript (.Name x p1) k p2] e pos.line X.env = pure false := by rfl) (hw : swappedStores [.Subscript (.Name x p1) k p2] e X.env = pure none := by rfl)
    (h1 : (assignEach [.Subscript (.Name x p1) k p2] X.env).map (·.2) = [assign (.Subscript (.Name x p1) k p2) X.env] := by rfl) : SS X g M (.Assign [.Subscript (.Name x p1) k p2] e pos) (sSetIx i mk m) :=
  PS.imp (ps_asg he (pg_sub (pe_var hN hv hd hcd) hk set_list ha) hs hw h1) fun D σ H ⟨F0, H0, F, env, z, r, h⟩ => by
    unfold sSetIx at h
    split at h
    · rename_i d fr z1 q
      split at h
      · rename_i xs q2
        split at h
        · rename_i j z2 q3
          split at h
          · rename_i n q4
            refine tE.sh r.sr q fun v F1 H1 s1 k1 => ?_
            have r1 := r.step s1
            obtain ⟨p, vs, h1, h2, h3, h4, h5, h6⟩ := r1.lstAt q2
            refine ⟨.ref p, h1, tP.at r1.sr q3 fun w F2 H2 s2 k2 => ?_⟩
            have h4' : H2 p = some (.lst vs) := s2.keep p _ h3 h4
            refine ⟨p, vs, j, n, rfl, k2.int, h4', by rw [h6.length]; exact q4, ?_⟩
            exact h σ F2 _ ((r1.step s2).write q2 h1 (.lst upd_same (by rw [List.length_set]; exact h5) ((h6.same s2.grow).set n (k1.same s2.grow))))
          · exact h.elim
        · exact h.elim
      · exact h.elim
    · exact h.elim
/-- what is not carried: nothing is promised -/
def eBad : EM := fun _ _ => none
def sBad : SM := fun _ _ => .bad
theorem ee_bad {e : Expr} : EE X g e eBad := ⟨fun pins s σ H Q I h => by obtain ⟨F, env, z, d, fr, z', _, e, _⟩ := h; cases e⟩
theorem ss_bad {st : Stmt} : SS X g M st sBad := ⟨fun pins s σ H D I h => by obtain ⟨F0, H0, F, env, z, _, e⟩ := h; exact e.elim⟩
end
end Tw

namespace Tw
open PySem PySem.Spec PyProof.Rows L2
section
variable {g : Gc} {M : List Addr} {F0 H0 F F' H H' : Hp} {σ σ' : L2.St} {env env' : Env'} {z z' : Int} {X : Cx} {D0 : Ends}
abbrev wFuel : Nat := 1000000
theorem hu_of64 {A : Around} {k : Nat} (hr : Room k A) : A.units + 64 < cLine := hr.units
theorem hu_of65 {A : Around} {k : Nat} (hr : Room k A) : A.units + 65 < cLine := by have := hr.un; omega
theorem ee_binX {a b : Expr} {pos : Pos} {op : Operator} {f : D → D → Option (D × Bool)} {ma mb : OM} (h : ∃ r, OpR X (binaryOp op) r ∧ BinOk g f r) (ha : OE X g a ma) (hb : OE X g b mb) : EE X g (.BinOp a op b pos) (mBin f ma mb) := by
  obtain ⟨r, h1, h2⟩ := h
  exact ee_bin h1 h2 ha hb
theorem ee_ixX {a b : Expr} {pos : Pos} {f : D → D → Option (D × Bool)} {ma mb : OM} (h : ∃ r, IxR X r ∧ BinOk g f r) (ha : OE X g a ma) (hb : OE X g b mb) (hs : PlainIx b) : EE X g (.Subscript a b pos) (mBin f ma mb) := by
  obtain ⟨r, h1, h2⟩ := h
  exact ee_ix h1 h2 ha hb hs
theorem ce_cmpX {a b : Expr} {pos : Pos} {op : CmpOp} {f : D → D → Option Bool} {ma mb : OM} (h : ∃ r, OpR X (compareOp op) r ∧ CmpOk g f r) (ha : OE X g a ma) (hb : OE X g b mb) (hm : behindInMarks op b = false) : CE' X g (.Compare a [op] [b] pos) (cCmp f ma mb) := by
  obtain ⟨r, h1, h2⟩ := h
  exact ce_cmp h1 h2 ha hb hm
theorem ee_cmpX {a b : Expr} {pos : Pos} {op : CmpOp} {f : D → D → Option Bool} {ma mb : OM} (h : ∃ r, OpR X (compareOp op) r ∧ CmpOk g f r) (ha : OE X g a ma) (hb : OE X g b mb) (hm : behindInMarks op b = false) : EE X g (.Compare a [op] [b] pos) (eB (cCmp f ma mb)) := by
  obtain ⟨r, h1, h2⟩ := h
  exact ee_cmp h1 h2 ha hb hm
theorem ee_bltX {x : Str} {id : String} {e : Expr} {es : List Expr} {p pos : Pos} {f : List D → Option (D × Bool)} {m : AM} (h : ∃ r, CallR X (.builtin id) r ∧ BltOk g f r) (hX : Of X g) (hm : g.mg x = none) (hv : bootBuiltins x = some (.builtin id)) (ha : AO X g (e :: es) m) (hg : Gl X x := by rfl)
    (hn : x ≠ "__name__" := by decide) (hdb : (x == ("__debug__" : Str)) = false := by decide)
    (he : starEach (e :: es) X.env = (false, eval e X.env) :: starEach es X.env := by rfl) (hpl : (backTo pos (starEach es X.env)).any (·.1) = false := by rfl) : EE X g (.Call (.Name x p) (e :: es) [] pos) (eBlt f m) := by
  obtain ⟨r, h1, h2⟩ := h
  exact ee_blt h1 h2 hX hm hv ha hg hn hdb he hpl
theorem ee_bltTyX {x : Str} {T : String} {e : Expr} {es : List Expr} {p pos : Pos} {f : List D → Option (D × Bool)} {m : AM} (h : ∃ r, CallR X (.type T) r ∧ BltOk g f r) (hX : Of X g) (hm : g.mg x = none) (hv : bootBuiltins x = some (.type T)) (ha : AO X g (e :: es) m) (hg : Gl X x := by rfl)
    (hn : x ≠ "__name__" := by decide) (hdb : (x == ("__debug__" : Str)) = false := by decide)
    (he : starEach (e :: es) X.env = (false, eval e X.env) :: starEach es X.env := by rfl) (hpl : (backTo pos (starEach es X.env)).any (·.1) = false := by rfl) : EE X g (.Call (.Name x p) (e :: es) [] pos) (eBlt f m) := by
  obtain ⟨r, h1, h2⟩ := h
  exact ee_blt_ty h1 h2 hX hm hv ha hg hn hdb he hpl
theorem ss_augX (i : Nat) {x : Str} {e : Expr} {op : Operator} {pos pos' : Pos} {m : OM} {f : D → D → Option (D × Bool)} (h : ∃ r, OpR X (inplaceOp op) r ∧ BinOk g f r) (he : OE X g e m) (hN : X.N.Nodup) (hi : X.N[i]? = some x := by rfl) (hx : Loc X.env.scope x := by first | exact Or.inl rfl | exact Or.inr rfl)
    (hf : X.fn x = true ∨ X.env.scope.names.lookup x = some .local := by first | exact .inl rfl | exact .inr rfl | assumption) : SS X g M (.AugAssign (.Name x pos') op e pos) (sAug i f m) := by
  obtain ⟨r, h1, h2⟩ := h
  exact ss_aug i h1 h2 he hN hi hx hf
/-- a module's constant -/
structure HaveK (g : Gc) (x : Str) (d : D) : Prop where
  ex : ∃ v u, g.mg x = some u ∧ RelV v u ∧ ∀ F, Rep g F v d
theorem ee_gl {x : Str} {pos : Pos} {d : D} (hX : Of X g) (h : HaveK g x d) (hg : Gl X x := by rfl) (hd : (x == ("__debug__" : Str)) = false := by decide) : EE X g (.Name x pos) (eC d) := by
  obtain ⟨v, u, h1, h2, h3⟩ := h.ex
  exact ee_glob hX h1 h2 h3 hg hd

/-! ### what is walked: a list, a tuple, a text -/
def iAny (a : OM) : IM := fun env z => (a env z).bind fun p => match p.1 with
  | .lst xs => some (xs, p.2)
  | .kst xs => some (xs, p.2)
  | .tup xs => some (xs, p.2)
  | .str x => some (strD x, p.2)
  | _ => none
theorem ie_any {tg e : Expr} {m : OM} (hX : Of X g) (he : OE X g e m) : IE X g true tg e (iAny m) :=
  PI.imp (pi_or (fun _ _ => trivial) (ie_seq (tg := tg) hX he) (ie_str (tg := tg) (kp := true) he)) fun σ H R ⟨F, env, z, ds, z', sr, e, h⟩ => by
    obtain ⟨⟨d, z1⟩, q1, e⟩ := obind e
    cases d with
    | lst xs => exact .inl ⟨F, env, z, ds, z', sr, by unfold iSeq; rw [q1]; exact e, h⟩
    | kst xs => exact .inl ⟨F, env, z, ds, z', sr, by unfold iSeq; rw [q1]; exact e, h⟩
    | tup xs => exact .inl ⟨F, env, z, ds, z', sr, by unfold iSeq; rw [q1]; exact e, h⟩
    | str xs => exact .inr ⟨F, env, z, ds, z', sr, by unfold iStr'; rw [q1]; exact e, h⟩
    | _ => simp at e
theorem ie_anyF {tg e : Expr} {m : EM} (hX : Of X g) (he : EE X g e m) : IE X g false tg e (iAny (oE m)) :=
  PI.imp (pi_or (fun _ _ => trivial) (ie_seqF (tg := tg) hX he) (ie_str (tg := tg) (kp := false) (oe_of he))) fun σ H R ⟨F, env, z, ds, z', sr, e, h⟩ => by
    obtain ⟨⟨d, z1⟩, q1, e⟩ := obind e
    cases d with
    | lst xs => exact .inl ⟨F, env, z, ds, z', sr, by unfold iSeq; rw [q1]; exact e, h⟩
    | kst xs => exact .inl ⟨F, env, z, ds, z', sr, by unfold iSeq; rw [q1]; exact e, h⟩
    | tup xs => exact .inl ⟨F, env, z, ds, z', sr, by unfold iSeq; rw [q1]; exact e, h⟩
    | str xs => exact .inr ⟨F, env, z, ds, z', sr, by unfold iStr'; rw [q1]; exact e, h⟩
    | _ => simp at e

/-! ### the draw state -/
def eCell (i : Nat) : EM := fun env z => match env[i]? with
  | some (.sh .cell) => some (.int z, false, z)
  | _ => none
def sCell (i : Nat) (m : EM) : SM := fun env z => match m env z with
  | some (.int j, _, _) => match env[i]? with
    | some (.sh .cell) => .nx env j
    | _ => .bad
  | _ => .bad
theorem ee_cell (hX : Of X g) (i : Nat) {x : Str} {p1 pos : Pos} {k kp} (hN : X.N[i]? = some x := by rfl) (hv : Vis X.env.scope x := by first | exact Or.inl rfl | exact Or.inr (Or.inl rfl) | exact Or.inr (Or.inr rfl)) (hd : (x == ("__debug__" : Str)) = false := by decide)
    (hcd : (x == ("__classdict__" : Str)) = false := by decide) : EE X g (.Subscript (.Name x p1) (.Constant (.int 0) k kp) pos) (eCell i) :=
  PE.imp (pe_ix ix_list (pe_var hN hv hd hcd) pe_int (fun _ _ => rfl)) fun σ H Q ⟨F, env, z, d, fr, z', sr, e, h⟩ => by
    unfold eCell at e
    split at e
    · rename_i q
      simp only [Option.some.injEq, Prod.mk.injEq] at e
      obtain ⟨rfl, rfl, rfl⟩ := e
      obtain ⟨v, e1, k1⟩ := sr.at_ i _ q
      cases k1 with
      | cell hc => exact ⟨_, e1, _, [.int z], 0, .int z, rfl, rfl, .inl (.inl (sr.cell _ hc).1), by rfl, h _ F H sr.refl (.int z)⟩
    · cases e
theorem SR.cellTo {c : Addr} {j : Int} (sr : SR g F H σ env z) (hc : g.cl = some c) : SR g F (upd H c (.lst [.int j])) σ env j := by
  obtain ⟨h1, h2⟩ := sr.cell c hc
  refine ⟨fun b u q => ?_, fun c' q => ?_, sr.len, fun l s e => ?_, sr.inj⟩
  · rw [upd_ne (fun e => by subst e; rw [h2] at q; cases q)]; exact sr.sub _ _ q
  · rw [hc] at q; cases q
    exact ⟨upd_same, h2⟩
  · have k := sr.at_ l s e
    cases s with
    | un => trivial
    | sh d => exact k
    | ow d =>
      obtain ⟨p, e1, n, cp, o⟩ := k
      exact ⟨p, e1, n, cp, o.move (upd_ne (fun e => cp (by rw [e]; exact hc))) (Same.refl _)⟩
theorem ss_cell (hX : Of X g) (i : Nat) {x : Str} {e : Expr} {p1 p2 pos : Pos} {k kp} {m : EM} (he : EE X g e m) (hN : X.N[i]? = some x := by rfl) (hv : Vis X.env.scope x := by first | exact Or.inl rfl | exact Or.inr (Or.inl rfl) | exact Or.inr (Or.inr rfl)) (hd : (x == ("__debug__" : Str)) = false := by decide)
    (hcd : (x == ("__classdict__" : Str)) = false := by decide)
    (ha : ∀ v, assign (.Subscript (.Name x p1) (.Constant (.int 0) k kp) p2) X.env v = (do
      let ov ← holding [v] (eval (.Name x p1) X.env)
      let iv ← holding [v, ov] (eval (.Constant (.int 0) k kp) X.env)
      standAt p2
      holding [v, ov, iv] (setItem ov iv v)
      release [v, ov, iv] []) := by intro _; rfl)
    (hs : swapsWithSole [.Subscript (.Name x p1) (.Constant (.int 0) k kp) p2] e pos.line X.env = pure false := by rfl) (hw : swappedStores [.Subscript (.Name x p1) (.Constant (.int 0) k kp) p2] e X.env = pure none := by rfl)
    (h1 : (assignEach [.Subscript (.Name x p1) (.Constant (.int 0) k kp) p2] X.env).map (·.2) = [assign (.Subscript (.Name x p1) (.Constant (.int 0) k kp) p2) X.env] := by rfl) : SS X g M (.Assign [.Subscript (.Name x p1) (.Constant (.int 0) k kp) p2] e pos) (sCell i m) :=
  PS.imp (ps_asg he (pg_sub (pe_var hN hv hd hcd) pe_int set_list ha) hs hw h1) fun D σ H ⟨F0, H0, F, env, z, r, h⟩ => by
    unfold sCell at h
    split at h
    · rename_i j fr z1 q
      split at h
      · rename_i q2
        refine tE.sh r.sr q fun v F1 H1 s1 k1 => ?_
        have r1 := r.step s1
        obtain ⟨w, e1, k2⟩ := r1.sr.at_ i _ q2
        cases k1
        cases k2 with
        | cell hc =>
          rename_i c
          obtain ⟨c1, c2⟩ := r1.sr.cell c hc
          refine ⟨_, e1, c, [.int z1], 0, 0, rfl, rfl, c1, by rfl, ?_⟩
          refine h σ F1 _ ⟨r1.sr.cellTo hc, ⟨r1.ent.grow, r1.ent.fr, fun a u q n w => ?_, fun a w => ?_⟩, r1.own⟩
          · rw [upd_ne (fun e => n (by rw [e]; exact hc))]; exact r1.ent.same a u q n w
          · by_cases e : a = c
            · subst e; rw [upd_same]; simp
            · rw [upd_ne e]; exact r1.ent.there a w
      · exact h.elim
    · exact h.elim

/-! ### a, b = x, y where one is a new list -/
def slotOf (d : D) : Bool → Slot
  | true => .ow d
  | false => .sh d
def sParO (i j : Nat) (a b : EM) : SM := fun env z => match a env z with
  | some (d, f1, z1) => match b env z1 with
    | some (e, f2, z2) => .nx ((env.set i (slotOf d f1)).set j (slotOf e f2)) z2
    | none => .bad
  | none => .bad
theorem Rs.valFr {i : Nat} {v : V} {d : D} {fr : Bool} (r0 : Rs g M F0 H0 F H σ env z) (s : Step g F H F' H' z') (k : Val g H F' H' v d fr) : Rs g M F0 H0 F' H' (σ.set i (some v)) (env.set i (slotOf d fr)) z' := by
  cases fr with
  | false => exact (r0.step s).setSh k
  | true => exact r0.valOw s k
theorem ss_parO (i j : Nat) {x y : Str} {a b : Expr} {ma mb : EM} {px py pt : Pos} {kt k2 pt2} {pos : Pos} (hX : Of X g) (hN : X.N.Nodup) (ha : EE X g a ma) (hb : EE X g b mb) (hi : X.N[i]? = some x := by rfl) (hj : X.N[j]? = some y := by rfl) (hij : i ≠ j := by decide)
    (hx : X.env.scope.names.lookup x = some .local := by rfl) (hy : X.env.scope.names.lookup y = some .local := by rfl)
    (hw : swappedStores [.Tuple [.Name x px, .Name y py] kt pt] (.Tuple [a, b] k2 pt2) X.env = pure (some [x, y]) := by rfl)
    (hs : swapsWithSole [.Tuple [.Name x px, .Name y py] kt pt] (.Tuple [a, b] k2 pt2) pos.line X.env = pure false := by rfl)
    (hst : starEach [a, b] X.env = (false, eval a X.env) :: starEach [b] X.env := by rfl) (hst2 : starEach [b] X.env = (false, eval b X.env) :: starEach [] X.env := by rfl) :
    SS X g M (.Assign [.Tuple [.Name x px, .Name y py] kt pt] (.Tuple [a, b] k2 pt2) pos) (sParO i j ma mb) :=
  PS.imp (ps_par hX.calm hN hi hj hij hx hy (pa_cons ha (pa_cons hb pa_nil hst2) hst) hw hs) fun D σ H ⟨F0, H0, F, env, z, r, h⟩ => by
    unfold sParO at h
    split at h
    · rename_i d f1 z1 q
      split at h
      · rename_i e f2 z2 q2
        refine tE.at r.sr q fun v F1 H1 s1 k1 => ?_
        refine tE.at (r.sr.step s1) q2 fun w F2 H2 s2 k2 => ⟨v, w, rfl, h _ F2 H2 ?_⟩
        -- the first stays as it was made
        have k1' : Val g H F2 H2 v d f1 := by
          cases f1 with
          | false => exact Rep.same s2.grow k1
          | true =>
            obtain ⟨p, e1, n1, n2, n3, o⟩ := k1
            obtain ⟨u, hu⟩ := o.obj
            exact ⟨p, e1, n1, s2.fr p (by rw [hu]; simp) n2, n3, o.move ((s2.keep p u n3 hu).trans hu.symm) s2.grow⟩
        have r2 := r.valFr (i := i) (s1.trans s2) k1'
        -- the second is new beside it
        cases f2 with
        | false => exact r2.setSh k2
        | true =>
          obtain ⟨p, e1, n1, n2, n3, o⟩ := k2
          subst e1
          refine r2.setOw n2 n3 o (.inl ?_) fun l d' e1 e2 => ?_
          · cases hq : H0 p with
            | none => rfl
            | some u => exact absurd n1 ((r.step s1).ent.there p (by rw [hq]; simp))
          · by_cases hl : i = l
            · subst hl
              exfalso
              have hi' : i < env.length := by
                by_cases q : i < env.length
                · exact q
                · rw [List.getElem?_eq_none (by rw [List.length_set]; omega)] at e1; cases e1
              rw [List.getElem?_set_self (by rw [r.sr.len]; exact hi')] at e2
              rw [List.getElem?_set_self hi'] at e1
              cases f1 with
              | false => cases e1
              | true =>
                obtain ⟨p', e3, _, _, _, o'⟩ := k1
                rw [e3] at e2
                simp only [Option.some.injEq, V.ref.injEq] at e2
                subst e2
                obtain ⟨u, hu⟩ := o'.obj
                rw [n1] at hu; cases hu
            · rw [List.getElem?_set_ne hl] at e1 e2
              obtain ⟨_, _, o'⟩ := (r.step s1).slotSome e1 e2
              obtain ⟨u, hu⟩ := o'.obj
              rw [n1] at hu; cases hu
      · exact h.elim
    · exact h.elim

/-! ### the law: the state is drawn, then the rest runs over it -/
abbrev Gc.at (g : Gc) (p : Addr) : Gc := { g with cl := some p }
def spL (K : PySem.W.Frag) : Sp := fun vs H Q _ => ∃ (a : Addr) (ns : List Int), vs = [.ref a] ∧ SqL K H a (ns.map V.int) ∧ ns.length ≤ 63 ∧ ∀ H', Q (.bl true) H'
/-- the rest of the law's body gives True from every state -/
def Holds' (nl : Nat) (m : SM) : Prop := ∀ (ns : List Int) (z : Int), ∃ fr env z', m (.sh (.kst (ns.map D.int)) :: .sh .cell :: List.replicate nl .un) z = .rt (.bl true) fr env z'
theorem law_ok {st0 st : Stmt} {rest : List Stmt} {f : Addr} {fd : FuncData} {N : List Str} {k nl : Nat} {m0 m : SM} (Fo : Fun g.K "law" "law" st f fd) (S : FnScope N ["script"] (defScope st)) (hN : N.length = nl + 2) (hb : defBody st = st0 :: rest) (hcl : g.cl = none)
    (hm0 : ∀ (ns : List Int), ns.length ≤ 63 → ∃ z z0, m0 (.sh (.kst (ns.map D.int)) :: List.replicate (nl + 1) .un) 0 = .nx (.sh (.kst (ns.map D.int)) :: .ow (.lst [.int z]) :: List.replicate nl .un) z0)
    (body0 : ∀ (cdv : Value) (A : Around) (outer : List PySem.Env) (s : Shared) (H : Hp) (E : XK), Room k (A.deeper (envOfC "law" (defScope st) s.heap.objs.size f cdv)) →
      SS (cxOf CX0 g.P g.w g.K g.mg g.base N "law" (defScope st) f cdv A outer s H E).nox g [] st0 m0)
    (body : ∀ (p : Addr) (cdv : Value) (A : Around) (outer : List PySem.Env) (s : Shared) (H : Hp) (E : XK), Room k (A.deeper (envOfC "law" (defScope st) s.heap.objs.size f cdv)) →
      SSs (cxOf CX0 g.P g.w g.K g.mg g.base N "law" (defScope st) f cdv A outer s H E).nox (g.at p) [] rest m)
    (hm : Holds' nl m) : FnOk g.P g.w g.K g.mg g.base CX0 (k + 1) f fd ["script"] (spL g.K) := by
  refine Fo.ok S (fun vs H Q E h => ?_) (fun cdv A outer s H vs Q E hr h => ?_)
  · obtain ⟨a, ns, rfl, _⟩ := h; rfl
  obtain ⟨a, ns, rfl, hs, h63, q⟩ := h
  rw [hb]
  have rest_ok : PSs (cxOf CX0 g.P g.w g.K g.mg g.base N "law" (defScope st) f cdv A outer s H E).nox rest (fun D σ H => ∃ p, tS (g.at p) [] m D σ H) :=
    ⟨fun pins s1 σ1 H1 D1 I1 ⟨p, h1⟩ => (body p cdv A outer s H E hr).run pins s1 σ1 H1 D1 I1 h1⟩
  refine ⟨_, pss_cons (body0 cdv A outer s H E hr) rest_ok, ?_⟩
  have hsz : (ns.map V.int).length ≤ sizeLine := by rw [List.length_map, lim_eq]; show _ ≤ 16777216; omega
  have rep0 : ∀ (g : Gc) (F : Hp), SqL g.K F a (ns.map V.int) → RepL g F [.ref a] [.kst (ns.map D.int)] := fun g F h => .cons (.kst h hsz (RepL.of_ints ns)) .nil
  have cell0 : ∀ F H z, CellOk g F H z := fun F H z c e => by rw [hcl] at e; cases e
  obtain ⟨z, z0, e0⟩ := hm0 ns h63
  have sr0 : SR g H H (L2.start N [.ref a]) ([D.kst (ns.map D.int)].map .sh ++ List.replicate (nl + 1) .un) 0 := start_sr (Same.refl _) (cell0 _ _ _) (rep0 g H hs) (by rw [hN]; show nl + 2 = 1 + (nl + 1); omega)
  have noow : ∀ (i : Nat) (d : D), ([D.kst (ns.map D.int)].map Slot.sh ++ List.replicate (nl + 1) Slot.un)[i]? ≠ some (.ow d) := fun i d e => by
    have := List.mem_of_getElem? e
    rw [List.mem_append, List.mem_map, List.mem_replicate] at this
    rcases this with ⟨x, _, h⟩ | ⟨_, h⟩ <;> cases h
  refine ⟨H, H, H, _, 0, ⟨sr0, Ent.refl H H, fun i d p e => absurd e (noow i d)⟩, ?_⟩
  have e0' : m0 ([D.kst (ns.map D.int)].map .sh ++ List.replicate (nl + 1) .un) 0 = .nx (.sh (.kst (ns.map D.int)) :: .ow (.lst [.int z]) :: List.replicate nl .un) z0 := e0
  rw [e0']
  intro σ1 F1 H1 r1
  obtain ⟨p, h1, h2, h3, h4⟩ := r1.sr.at_ 1 _ rfl
  obtain ⟨v0, g1, g2⟩ := r1.sr.at_ 0 _ rfl
  obtain ⟨fr, env', z', ef⟩ := hm ns z
  cases h4 with
  | lst c1 c2 c3 =>
    have ev := c3.ints (ns := [z])
    rw [ev] at c1
    refine ⟨p, F1, H1, F1, .sh (.kst (ns.map D.int)) :: .sh .cell :: List.replicate nl .un, z, ⟨⟨r1.sr.sub, fun c e => ?_, r1.sr.len, fun l sl el => ?_, fun i j p d d' e => ?_⟩, Ent.refl F1 H1, fun i d p e => ?_⟩, ?_⟩
    · cases e; exact ⟨c1, h2⟩
    · match l, el with
      | 0, el =>
        cases el
        refine ⟨v0, g1, ?_⟩
        cases g2 with
        | kst k1 k2 k3 => exact .kst k1 k2 (by have := k3.ints; rw [this]; exact RepL.of_ints ns)
      | 1, el => cases el; exact ⟨.ref p, h1, .cell rfl⟩
      | l + 2, el =>
        have el' : (List.replicate nl Slot.un)[l]? = some sl := el
        rw [List.getElem?_replicate] at el'
        split at el'
        · cases el'; trivial
        · cases el'
    · have := List.mem_of_getElem? e
      simp at this
    · have := List.mem_of_getElem? e
      simp at this
    · rw [ef]
      intro v σ2 F2 H2 r2 k2
      cases fr with
      | false => cases k2; exact q H2
      | true => obtain ⟨p', _, _, _, _, o⟩ := k2; cases o
end
end Tw

namespace Tw
open PySem PySem.Spec PyProof.Rows L2
section
variable {g : Gc} {M : List Addr} {F0 H0 F F' H H' : Hp} {σ σ' : L2.St} {env env' : Env'} {z z' : Int} {X : Cx} {D0 : Ends}
theorem Val.up {Hb : Hp} {v : V} {d : D} {fr : Bool} (s : Step g F H F' H' z) (k : Val g Hb F H v d fr) : Val g Hb F' H' v d fr := by
  cases fr with
  | false => exact Rep.same s.grow k
  | true =>
    obtain ⟨p, e1, n1, n2, n3, o⟩ := k
    obtain ⟨u, hu⟩ := o.obj
    exact ⟨p, e1, n1, s.fr p (by rw [hu]; simp) n2, n3, o.move ((s.keep p u n3 hu).trans hu.symm) s.grow⟩
/-- a, b = x, y through a tuple (a captured name among them) -/
theorem ss_parC (i j : Nat) {x y : Str} {a b : Expr} {ma mb : EM} {px py pt : Pos} {kt k2 pt2} {pos : Pos} (hX : Of X g) (hN : X.N.Nodup) (ha : EE X g a ma) (hb : EE X g b mb) (hi : X.N[i]? = some x := by rfl) (hj : X.N[j]? = some y := by rfl) (hij : i ≠ j := by decide)
    (hx : Loc X.env.scope x := by first | exact Or.inl rfl | exact Or.inr rfl) (hy : Loc X.env.scope y := by first | exact Or.inl rfl | exact Or.inr rfl)
    (hfx : X.fn x = true ∨ X.env.scope.names.lookup x = some .local := by first | exact .inl rfl | exact .inr rfl | assumption) (hfy : X.fn y = true ∨ X.env.scope.names.lookup y = some .local := by first | exact .inl rfl | exact .inr rfl | assumption)
    (hw : swappedStores [.Tuple [.Name x px, .Name y py] kt pt] (.Tuple [a, b] k2 pt2) X.env = pure none := by rfl)
    (hs : swapsWithSole [.Tuple [.Name x px, .Name y py] kt pt] (.Tuple [a, b] k2 pt2) pos.line X.env = pure false := by rfl)
    (h1 : (assignEach [.Tuple [.Name x px, .Name y py] kt pt] X.env).map (·.2) = [assign (.Tuple [.Name x px, .Name y py] kt pt) X.env] := by rfl)
    (hst : starEach [a, b] X.env = (false, eval a X.env) :: starEach [b] X.env := by rfl) (hst2 : starEach [b] X.env = (false, eval b X.env) :: starEach [] X.env := by rfl)
    (hn : (assignEach [Expr.Name x px, .Name y py] X.env).length = 2 := by rfl) (hsi : (assignEach [Expr.Name x px, .Name y py] X.env).findIdx? (·.1) = none := by rfl)
    (hc1 : (assignEach [Expr.Name x px, .Name y py] X.env).map (·.2) = assign (.Name x px) X.env :: (assignEach [Expr.Name y py] X.env).map (·.2) := by rfl) (hc2 : (assignEach [Expr.Name y py] X.env).map (·.2) = assign (.Name y py) X.env :: (assignEach [] X.env).map (·.2) := by rfl) :
    SS X g M (.Assign [.Tuple [.Name x px, .Name y py] kt pt] (.Tuple [a, b] k2 pt2) pos) (sParO i j ma mb) :=
  PS.imp (ps_asg (pe_tup (pa_cons ha (pa_cons hb pa_nil hst2) hst)) (pg_tup hX.calm (pgs_cons (pg_name hN hi hx hfx) (pgs_cons (pg_name hN hj hy hfy) pgs_nil hc2) hc1) hn hsi) hs hw h1) fun D σ H ⟨F0, H0, F, env, z, r, h⟩ => by
    unfold sParO at h
    split at h
    · rename_i d f1 z1 q
      split at h
      · rename_i e f2 z2 q2
        refine tE.at r.sr q fun v F1 H1 s1 k1 => ?_
        refine tE.at (r.sr.step s1) q2 fun w F2 H2 s2 k2 => ⟨by show 2 ≤ sizeLine; rw [lim_eq]; show 2 ≤ 16777216; omega, fun p3 hp3 => ?_⟩
        have s3 := Step.new (g := g) (F := F2) (o := .tup [v, w]) s2.sub s2.cell hp3
        refine ⟨p3, [v, w], rfl, .inl (.inl upd_same), rfl, v, [w], rfl, w, [], rfl, rfl, ?_⟩
        have k1' : Val g H F2 (upd H2 p3 (.tup [v, w])) v d f1 := (k1.up s2).up s3
        have k2' : Val g H1 F2 (upd H2 p3 (.tup [v, w])) w e f2 := k2.up s3
        refine h _ F2 _ ?_
        have r2 := r.valFr (i := i) ((s1.trans s2).trans s3) k1'
        cases f2 with
        | false => exact r2.setSh k2'
        | true =>
          obtain ⟨p, e1, n1, n2, n3, o⟩ := k2'
          subst e1
          refine r2.setOw n2 n3 o (.inl ?_) fun l d' e1 e2 => ?_
          · cases hq : H0 p with
            | none => rfl
            | some u => exact absurd n1 ((r.step s1).ent.there p (by rw [hq]; simp))
          · by_cases hl : i = l
            · subst hl
              exfalso
              have hi' : i < env.length := by
                by_cases q : i < env.length
                · exact q
                · rw [List.getElem?_eq_none (by rw [List.length_set]; omega)] at e1; cases e1
              rw [List.getElem?_set_self (by rw [r.sr.len]; exact hi')] at e2
              rw [List.getElem?_set_self hi'] at e1
              cases f1 with
              | false => cases e1
              | true =>
                obtain ⟨p', e3, _, _, _, o'⟩ := k1
                rw [e3] at e2
                simp only [Option.some.injEq, V.ref.injEq] at e2
                subst e2
                obtain ⟨u, hu⟩ := o'.obj
                rw [n1] at hu; cases hu
            · rw [List.getElem?_set_ne hl] at e1 e2
              obtain ⟨_, _, o'⟩ := (r.step s1).slotSome e1 e2
              obtain ⟨u, hu⟩ := o'.obj
              rw [n1] at hu; cases hu
      · exact h.elim
    · exact h.elim
end
end Tw

namespace Tw
open PySem PySem.Spec PyProof.Rows L2
def DefAt (g : Gc) (x : Str) (st : Stmt) (ps : List Str) : Prop := ∃ f fd, Fun g.K x x st f fd ∧ g.mg x = some (.ref f) ∧ Binds g.K fd ps []
theorem defAt_mk {K : PySem.W.Frag} {h : Heap} {mg : Str → Option Value} {f : Addr} {g : Gc} {x : Str} {st : Stmt} {ps : List Str} (hK : g.K = K) (hmg : g.mg = mg) (X : K.In h) (G : h.Ns mainGlobals mg) {oc : Value} {od an : Option Addr} {osl : Array (Option Value)} {kV doc pm cdv ct : Value}
    (a : PySem.W.nsIn K mainGlobals x = some (some (.ref f))) (l : K.lookup f = some ⟨oc, od, .func (PySem.W.fnOf x x (defArgs st) (defBody st) (defScope st) .none kV doc pm an cdv ct), osl⟩)
    (c : PySem.W.codeIn K cdv x = true) (k : PySem.W.keepIn K (.ref f) = true)
    (h : ∀ (kV doc pm : Value) (an : Option Addr) (cdv ct : Value) (us : List Value), us.length = ps.length → bindArgs (PySem.W.fnOf x x (defArgs st) (defBody st) (defScope st) .none kV doc pm an cdv ct) ⟨us, []⟩ = pure (ps.zip us)) : DefAt g x st ps := by
  subst hK hmg
  have F := fun_mk l c k
  exact ⟨_, _, F, PySem.W.mg_of X G a, F.binds h⟩
end Tw

/-! what does not draw: it runs from every state as from 0, and from every fuller environment as from an emptier one -/
namespace Tw
open PySem PySem.Spec PyProof.Rows L2
structure Le (a b : Env') : Prop where
  len : a.length = b.length
  at_ : ∀ (i : Nat) (s : Slot), a[i]? = some s → s = Slot.un ∨ b[i]? = some s
theorem Le.refl (a : Env') : Le a a := ⟨rfl, fun _ _ h => .inr h⟩
theorem Le.set {a b : Env'} (h : Le a b) (i : Nat) (s : Slot) : Le (a.set i s) (b.set i s) := by
  refine ⟨by rw [List.length_set, List.length_set]; exact h.len, fun j t e => ?_⟩
  by_cases q : i = j
  · subst q
    rw [List.getElem?_set] at e ⊢
    rw [if_pos rfl] at e ⊢
    rw [← h.len]; exact .inr e
  · rw [List.getElem?_set_ne q] at e ⊢
    exact h.at_ j t e
theorem Le.sh {a b : Env'} (h : Le a b) {i : Nat} {d : D} (e : a[i]? = some (.sh d)) : b[i]? = some (.sh d) := by
  rcases h.at_ _ _ e with q | q
  · cases q
  · exact q
theorem Le.ow {a b : Env'} (h : Le a b) {i : Nat} {d : D} (e : a[i]? = some (.ow d)) : b[i]? = some (.ow d) := by
  rcases h.at_ _ _ e with q | q
  · cases q
  · exact q
theorem Le.setR {a b : Env'} (h : Le a b) {i : Nat} {s : Slot} (e : a[i]? = none ∨ a[i]? = some Slot.un) : Le a (b.set i s) := by
  refine ⟨by rw [List.length_set]; exact h.len, fun j t q => ?_⟩
  by_cases hj : i = j
  · subst hj
    rcases e with e | e <;> rw [e] at q
    · cases q
    · cases q; exact .inl rfl
  · rw [List.getElem?_set_ne hj]; exact h.at_ j t q
def PuE (m : EM) : Prop := ∀ a b w z d fr w', Le a b → m a w = some (d, fr, w') → w' = w ∧ m b z = some (d, fr, z)
def PuO (m : OM) : Prop := ∀ a b w z d w', Le a b → m a w = some (d, w') → w' = w ∧ m b z = some (d, z)
def PuT (m : TM) : Prop := ∀ a b w z d w', Le a b → m a w = some (d, w') → w' = w ∧ m b z = some (d, z)
def PuA (m : AM) : Prop := ∀ a b w z d w', Le a b → m a w = some (d, w') → w' = w ∧ m b z = some (d, z)
def PuP (m : PM) : Prop := ∀ a b w z d w', Le a b → m a w = some (d, w') → w' = w ∧ m b z = some (d, z)
def PuI (m : IM) : Prop := ∀ a b w z d w', Le a b → m a w = some (d, w') → w' = w ∧ m b z = some (d, z)
def PuB (m : BM) : Prop := ∀ d a b a', Le a b → m d a = some a' → ∃ b', m d b = some b' ∧ Le a' b'
def PuBs (m : BMs) : Prop := ∀ d a b a', Le a b → m d a = some a' → ∃ b', m d b = some b' ∧ Le a' b'
def PuF (G : List D → Int → ER) : Prop := ∀ ds w z d fr w', G ds w = some (d, fr, w') → w' = w ∧ G ds z = some (d, fr, z)
def PuR (r s : RS) (w z : Int) : Prop := match r with
  | .nx a w' => w' = w ∧ ∃ b, s = .nx b z ∧ Le a b
  | .bk a w' => w' = w ∧ ∃ b, s = .bk b z ∧ Le a b
  | .ct a w' => w' = w ∧ ∃ b, s = .ct b z ∧ Le a b
  | .rt d fr a w' => w' = w ∧ ∃ b, s = .rt d fr b z ∧ Le a b
  | .bad => True
def PuS (m : SM) : Prop := ∀ a b w z, Le a b → PuR (m a w) (m b z) w z
/-! ### expressions -/
theorem pu_c {d : D} : PuE (eC d) := fun a b w z d' fr w' l h => by
  simp only [eC, Option.some.injEq, Prod.mk.injEq] at h ⊢
  exact ⟨h.2.2.symm, h.1, h.2.1, trivial⟩
theorem pu_bad : PuE eBad := fun a b w z d' fr w' l h => by cases h
theorem pu_v {i : Nat} : PuE (eV i) := fun a b w z d fr w' l h => by
  unfold eV at h ⊢
  split at h
  · rename_i d' q
    rw [l.sh q]
    simp only [Option.some.injEq, Prod.mk.injEq] at h ⊢
    exact ⟨h.2.2.symm, h.1, h.2.1, trivial⟩
  · cases h
theorem pu_ov {i : Nat} : PuO (oV i) := fun a b w z d w' l h => by
  unfold oV at h ⊢
  split at h
  · rename_i d' q
    rw [l.sh q]
    simp only [Option.some.injEq, Prod.mk.injEq] at h ⊢
    exact ⟨h.2.symm, h.1, trivial⟩
  · rename_i d' q
    rw [l.ow q]
    simp only [Option.some.injEq, Prod.mk.injEq] at h ⊢
    exact ⟨h.2.symm, h.1, trivial⟩
  · cases h
theorem pu_oe {m : EM} (h : PuE m) : PuO (oE m) := fun a b w z d w' l e => by
  obtain ⟨⟨d1, f1, w1⟩, q, e1⟩ := omap e
  obtain ⟨rfl, k⟩ := h _ b _ z _ _ _ l q
  cases e1
  exact ⟨rfl, by unfold oE; rw [k]; rfl⟩
theorem pu_bin {f : D → D → Option (D × Bool)} {m n : OM} (h1 : PuO m) (h2 : PuO n) : PuE (mBin f m n) := fun a b w z d fr w' l e => by
  obtain ⟨⟨d1, w1⟩, q1, e1⟩ := obind e
  obtain ⟨rfl, k1⟩ := h1 _ b _ z _ _ l q1
  obtain ⟨⟨d2, w2⟩, q2, e2⟩ := obind e1
  obtain ⟨rfl, k2⟩ := h2 _ b _ z _ _ l q2
  obtain ⟨r, q3, e3⟩ := omap e2
  cases e3
  exact ⟨rfl, by simp only at q3; simp [mBin, k1, k2, q3]⟩
theorem pu_un {f : D → Option (D × Bool)} {m : OM} (h1 : PuO m) : PuE (mUn f m) := fun a b w z d fr w' l e => by
  obtain ⟨⟨d1, w1⟩, q1, e1⟩ := obind e
  obtain ⟨rfl, k1⟩ := h1 _ b _ z _ _ l q1
  obtain ⟨r, q3, e2⟩ := omap e1
  cases e2
  exact ⟨rfl, by simp only at q3; simp [mUn, k1, q3]⟩
theorem pu_cmp {f : D → D → Option Bool} {m n : OM} (h1 : PuO m) (h2 : PuO n) : PuT (cCmp f m n) := fun a b w z d w' l e => by
  obtain ⟨⟨d1, w1⟩, q1, e1⟩ := obind e
  obtain ⟨rfl, k1⟩ := h1 _ b _ z _ _ l q1
  obtain ⟨⟨d2, w2⟩, q2, e2⟩ := obind e1
  obtain ⟨rfl, k2⟩ := h2 _ b _ z _ _ l q2
  obtain ⟨r, q3, e3⟩ := omap e2
  cases e3
  exact ⟨rfl, by simp only at q3; simp [cCmp, k1, k2, q3]⟩
theorem pu_B {m : TM} (h : PuT m) : PuE (eB m) := fun a b w z d fr w' l e => by
  obtain ⟨⟨d1, w1⟩, q, e1⟩ := omap e
  obtain ⟨rfl, k⟩ := h _ b _ z _ _ l q
  cases e1
  exact ⟨rfl, by simp [eB, k]⟩
theorem pu_ce {m : EM} (h : PuE m) : PuT (cE m) := fun a b w z d w' l e => by
  obtain ⟨⟨d1, f1, w1⟩, q, e1⟩ := obind e
  obtain ⟨rfl, k⟩ := h _ b _ z _ _ _ l q
  cases d1 with
  | bl c =>
    simp only [Option.some.injEq, Prod.mk.injEq] at e1
    obtain ⟨rfl, rfl⟩ := e1
    exact ⟨rfl, by simp [cE, k]⟩
  | _ => cases e1
theorem pu_cand {m n : TM} (h1 : PuT m) (h2 : PuT n) : PuT (cAnd m n) := fun a b w z d w' l e => by
  obtain ⟨⟨d1, w1⟩, q1, e1⟩ := obind e
  obtain ⟨rfl, k1⟩ := h1 _ b _ z _ _ l q1
  cases d1 with
  | true =>
    obtain ⟨rfl, k2⟩ := h2 _ b _ z _ _ l (show n a w1 = some (d, w') from e1)
    exact ⟨rfl, by simp [cAnd, k1, k2]⟩
  | false =>
    cases e1
    exact ⟨rfl, by simp [cAnd, k1]⟩
theorem pu_cor {m n : TM} (h1 : PuT m) (h2 : PuT n) : PuT (cOr m n) := fun a b w z d w' l e => by
  obtain ⟨⟨d1, w1⟩, q1, e1⟩ := obind e
  obtain ⟨rfl, k1⟩ := h1 _ b _ z _ _ l q1
  cases d1 with
  | false =>
    obtain ⟨rfl, k2⟩ := h2 _ b _ z _ _ l (show n a w1 = some (d, w') from e1)
    exact ⟨rfl, by simp [cOr, k1, k2]⟩
  | true =>
    cases e1
    exact ⟨rfl, by simp [cOr, k1]⟩
theorem pu_cnot {m : TM} (h : PuT m) : PuT (cNot m) := fun a b w z d w' l e => by
  obtain ⟨⟨d1, w1⟩, q, e1⟩ := omap e
  obtain ⟨rfl, k⟩ := h _ b _ z _ _ l q
  cases e1
  exact ⟨rfl, by simp [cNot, k]⟩
theorem pu_if {c : TM} {m n : EM} (h : PuT c) (h1 : PuE m) (h2 : PuE n) : PuE (eIf c m n) := fun a b w z d fr w' l e => by
  obtain ⟨⟨d1, w1⟩, q1, e1⟩ := obind e
  obtain ⟨rfl, k1⟩ := h _ b _ z _ _ l q1
  cases d1 with
  | false =>
    obtain ⟨rfl, k2⟩ := h2 _ b _ z _ _ _ l (show n a w1 = some (d, fr, w') from e1)
    exact ⟨rfl, by simp [eIf, k1, k2]⟩
  | true =>
    obtain ⟨rfl, k2⟩ := h1 _ b _ z _ _ _ l (show m a w1 = some (d, fr, w') from e1)
    exact ⟨rfl, by simp [eIf, k1, k2]⟩
theorem pu_and {m n : EM} (h1 : PuE m) (h2 : PuE n) : PuE (eAnd m n) := fun a b w z d fr w' l e => by
  obtain ⟨⟨d1, w1⟩, q1, e1⟩ := obind e
  obtain ⟨rfl, k1⟩ := pu_ce h1 _ b _ z _ _ l q1
  cases d1 with
  | true =>
    obtain ⟨rfl, k2⟩ := h2 _ b _ z _ _ _ l (show n a w1 = some (d, fr, w') from e1)
    exact ⟨rfl, by simp [eAnd, k1, k2]⟩
  | false =>
    cases e1
    exact ⟨rfl, by simp [eAnd, k1]⟩
theorem pu_or {m n : EM} (h1 : PuE m) (h2 : PuE n) : PuE (eOr m n) := fun a b w z d fr w' l e => by
  obtain ⟨⟨d1, w1⟩, q1, e1⟩ := obind e
  obtain ⟨rfl, k1⟩ := pu_ce h1 _ b _ z _ _ l q1
  cases d1 with
  | false =>
    obtain ⟨rfl, k2⟩ := h2 _ b _ z _ _ _ l (show n a w1 = some (d, fr, w') from e1)
    exact ⟨rfl, by simp [eOr, k1, k2]⟩
  | true =>
    cases e1
    exact ⟨rfl, by simp [eOr, k1]⟩
theorem pu_not {m : EM} (h1 : PuE m) : PuE (eNot m) := fun a b w z d fr w' l e => by
  obtain ⟨⟨d1, w1⟩, q, e1⟩ := omap e
  obtain ⟨rfl, k⟩ := pu_ce h1 _ b _ z _ _ l q
  cases e1
  exact ⟨rfl, by simp [eNot, k]⟩
theorem pu_anil : PuA aNil := fun a b w z d w' l e => by
  simp only [aNil, Option.some.injEq, Prod.mk.injEq] at e ⊢
  exact ⟨e.2.symm, e.1, trivial⟩
theorem pu_acons {m : EM} {n : AM} (h1 : PuE m) (h2 : PuA n) : PuA (aCons m n) := fun a b w z d w' l e => by
  obtain ⟨⟨d1, f1, w1⟩, q1, e1⟩ := obind e
  obtain ⟨rfl, k1⟩ := h1 _ b _ z _ _ _ l q1
  obtain ⟨⟨d2, w2⟩, q2, e2⟩ := omap e1
  obtain ⟨rfl, k2⟩ := h2 _ b _ z _ _ l q2
  cases e2
  exact ⟨rfl, by simp [aCons, k1, k2]⟩
theorem pu_aconsO {m : OM} {n : AM} (h1 : PuO m) (h2 : PuA n) : PuA (aConsO m n) := fun a b w z d w' l e => by
  obtain ⟨⟨d1, w1⟩, q1, e1⟩ := obind e
  obtain ⟨rfl, k1⟩ := h1 _ b _ z _ _ l q1
  obtain ⟨⟨d2, w2⟩, q2, e2⟩ := omap e1
  obtain ⟨rfl, k2⟩ := h2 _ b _ z _ _ l q2
  cases e2
  exact ⟨rfl, by simp [aConsO, k1, k2]⟩
theorem pu_tup {m : AM} (h : PuA m) : PuE (eTup m) := fun a b w z d fr w' l e => by
  obtain ⟨⟨d1, w1⟩, q, e1⟩ := obind e
  obtain ⟨rfl, k⟩ := h _ b _ z _ _ l q
  by_cases hl : d1.length ≤ lim
  · rw [if_pos hl] at e1
    cases e1
    exact ⟨rfl, by simp only [eTup, k, Option.bind_some]; rw [if_pos hl]⟩
  · rw [if_neg hl] at e1; cases e1
theorem pu_lst {m : AM} (h : PuA m) : PuE (eLst m) := fun a b w z d fr w' l e => by
  obtain ⟨⟨d1, w1⟩, q, e1⟩ := obind e
  obtain ⟨rfl, k⟩ := h _ b _ z _ _ l q
  by_cases hl : d1.length ≤ lim
  · rw [if_pos hl] at e1
    cases e1
    exact ⟨rfl, by simp only [eLst, k, Option.bind_some]; rw [if_pos hl]⟩
  · rw [if_neg hl] at e1; cases e1
theorem pu_call {G : List D → Int → ER} {m : AM} (hG : PuF G) (h : PuA m) : PuE (eCall G m) := fun a b w z d fr w' l e => by
  obtain ⟨⟨d1, w1⟩, q, e1⟩ := obind e
  obtain ⟨rfl, k⟩ := h _ b _ z _ _ l q
  obtain ⟨rfl, k2⟩ := hG _ _ z _ _ _ e1
  exact ⟨rfl, by simp only at k2; simp [eCall, k, k2]⟩
theorem pu_blt {f : List D → Option (D × Bool)} {m : AM} (h : PuA m) : PuE (eBlt f m) := fun a b w z d fr w' l e => by
  obtain ⟨⟨d1, w1⟩, q, e1⟩ := obind e
  obtain ⟨rfl, k⟩ := h _ b _ z _ _ l q
  obtain ⟨r, q3, e2⟩ := omap e1
  cases e2
  exact ⟨rfl, by simp only at q3; simp [eBlt, k, q3]⟩
theorem pu_pno : PuP pNo := fun a b w z d w' l e => by
  simp only [pNo, Option.some.injEq, Prod.mk.injEq] at e ⊢
  exact ⟨e.2.symm, e.1, trivial⟩
theorem pu_pso {m : OM} (h : PuO m) : PuP (pSo m) := fun a b w z d w' l e => by
  obtain ⟨⟨d1, w1⟩, q, e1⟩ := obind e
  obtain ⟨rfl, k⟩ := h _ b _ z _ _ l q
  cases d1 with
  | int i => cases e1; exact ⟨rfl, by simp [pSo, k]⟩
  | _ => cases e1
theorem pu_cut {m : OM} {p q : PM} (h1 : PuO m) (h2 : PuP p) (h3 : PuP q) : PuE (eCut m p q) := fun a b w z d fr w' l e => by
  obtain ⟨⟨d1, w1⟩, q1, e1⟩ := obind e
  obtain ⟨rfl, k1⟩ := h1 _ b _ z _ _ l q1
  obtain ⟨⟨d2, w2⟩, q2, e2⟩ := obind e1
  obtain ⟨rfl, k2⟩ := h2 _ b _ z _ _ l q2
  obtain ⟨⟨d3, w3⟩, q3, e3⟩ := obind e2
  obtain ⟨rfl, k3⟩ := h3 _ b _ z _ _ l q3
  obtain ⟨r, q4, e4⟩ := omap e3
  cases e4
  exact ⟨rfl, by simp only at q4; simp [eCut, k1, k2, k3, q4]⟩
/-! ### what is walked -/
theorem pu_any {m : OM} (h : PuO m) : PuI (iAny m) := fun a b w z d w' l e => by
  obtain ⟨⟨d1, w1⟩, q, e1⟩ := obind e
  obtain ⟨rfl, k⟩ := h _ b _ z _ _ l q
  cases d1 <;> first | (cases e1; exact ⟨rfl, by simp [iAny, k]⟩) | cases e1
theorem pu_rg1 {m : AM} (h : PuA m) : PuI (iRg1 m) := fun a b w z d w' l e => by
  obtain ⟨⟨d1, w1⟩, q, e1⟩ := obind e
  obtain ⟨rfl, k⟩ := h _ b _ z _ _ l q
  simp only at e1
  refine ⟨?_, ?_⟩
  · split at e1
    · split at e1
      · cases e1; rfl
      · cases e1
    · cases e1
  · unfold iRg1
    rw [k]
    simp only [Option.bind_some]
    split at e1
    · rename_i j
      split at e1
      · rename_i q2
        cases e1
        simp [q2]
      · cases e1
    · cases e1
theorem pu_rg2 {m : AM} (h : PuA m) : PuI (iRg2 m) := fun a b w z d w' l e => by
  obtain ⟨⟨d1, w1⟩, q, e1⟩ := obind e
  obtain ⟨rfl, k⟩ := h _ b _ z _ _ l q
  simp only at e1
  refine ⟨?_, ?_⟩
  · split at e1
    · split at e1
      · cases e1; rfl
      · cases e1
    · cases e1
  · unfold iRg2
    rw [k]
    simp only [Option.bind_some]
    split at e1
    · rename_i j
      split at e1
      · rename_i q2
        cases e1
        simp [q2]
      · cases e1
    · cases e1
/-! ### targets -/
theorem pu_name {i : Nat} : PuB (bName i) := fun d a b a' l e => by cases e; exact ⟨_, rfl, l.set i _⟩
theorem pu_bnil : PuBs bsNil := fun d a b a' l e => by
  unfold bsNil at e ⊢
  split at e
  · cases e; exact ⟨_, rfl, l⟩
  · cases e
theorem pu_bcons {m : BM} {n : BMs} (h1 : PuB m) (h2 : PuBs n) : PuBs (bsCons m n) := fun d a b a' l e => by
  unfold bsCons at e ⊢
  split at e
  · obtain ⟨a1, q, e1⟩ := obind e
    obtain ⟨b1, k1, l1⟩ := h1 _ _ b _ l q
    obtain ⟨b2, k2, l2⟩ := h2 _ _ b1 _ l1 e1
    exact ⟨b2, by simp [k1, k2], l2⟩
  · cases e
theorem pu_btup {n : Nat} {m : BMs} (h : PuBs m) : PuB (bTup n m) := fun d a b a' l e => by
  unfold bTup at e ⊢
  split at e
  · split at e
    · rename_i hl
      obtain ⟨b1, k1, l1⟩ := h _ _ b _ l e
      exact ⟨b1, by rw [if_pos hl]; exact k1, l1⟩
    · cases e
  · cases e
/-! ### comprehensions -/
theorem Le.wipe {a b : Env'} (h : Le a b) : ∀ vs : List Nat, Le (wipeE a vs) (wipeE b vs)
  | [] => h
  | v :: vs => by unfold wipeE; exact (Le.wipe h vs).set v .un
theorem pu_cyes : PuT cYes := fun a b w z d w' l e => by
  simp only [cYes, Option.some.injEq, Prod.mk.injEq] at e ⊢
  exact ⟨e.2.symm, e.1, trivial⟩
theorem pu_compL {b : BM} {t : TM} {m : EM} (hb : PuB b) (ht : PuT t) (hm : PuE m) {x y : Env'} (l : Le x y) : ∀ (ds : List D) (w z : Int) (r : List D) (w' : Int), compL b t m x ds w = some (r, w') → w' = w ∧ compL b t m y ds z = some (r, z)
  | [], w, z, r, w', e => by
    simp only [compL, Option.some.injEq, Prod.mk.injEq] at e ⊢
    exact ⟨e.2.symm, e.1, trivial⟩
  | d :: ds, w, z, r, w', e => by
    simp only [compL] at e
    obtain ⟨x1, q1, e1⟩ := obind e
    obtain ⟨y1, k1, l1⟩ := hb _ _ y _ l q1
    obtain ⟨⟨c, w1⟩, q2, e2⟩ := obind e1
    obtain ⟨rfl, k2⟩ := ht _ y1 _ z _ _ l1 q2
    cases c with
    | true =>
      rw [if_pos rfl] at e2
      obtain ⟨⟨v, f, w2⟩, q3, e3⟩ := obind e2
      obtain ⟨rfl, k3⟩ := hm _ y1 _ z _ _ _ l1 q3
      obtain ⟨⟨r1, w3⟩, q4, e4⟩ := omap e3
      obtain ⟨rfl, k4⟩ := pu_compL hb ht hm l ds _ z _ _ q4
      cases e4
      exact ⟨rfl, by simp [compL, k1, k2, k3, k4]⟩
    | false =>
      rw [if_neg (by simp)] at e2
      obtain ⟨rfl, k4⟩ := pu_compL hb ht hm l ds _ z _ _ e2
      exact ⟨rfl, by simp [compL, k1, k2, k4]⟩
theorem pu_comp {vs : List Nat} {it : IM} {b : BM} {t : TM} {m : EM} (hi : PuI it) (hb : PuB b) (ht : PuT t) (hm : PuE m) : PuE (eComp vs it b t m) := fun x y w z d fr w' l e => by
  obtain ⟨⟨ds, w1⟩, q1, e1⟩ := obind e
  obtain ⟨rfl, k1⟩ := hi _ y _ z _ _ l q1
  obtain ⟨⟨r, w2⟩, q2, e2⟩ := omap e1
  obtain ⟨rfl, k2⟩ := pu_compL hb ht hm (l.wipe vs) ds _ z _ _ q2
  cases e2
  exact ⟨rfl, by simp [eComp, k1, k2]⟩
theorem pu_compL2 {b : BM} {t : TM} {it : IM} {vs : List Nat} {b1 : BM} {t1 : TM} {m : EM} (hb : PuB b) (ht : PuT t) (hi : PuI it) (hb1 : PuB b1) (ht1 : PuT t1) (hm : PuE m) {x y : Env'} (l : Le x y) : ∀ (ds : List D) (w z : Int) (r : List D) (w' : Int), compL2 b t it vs b1 t1 m x ds w = some (r, w') → w' = w ∧ compL2 b t it vs b1 t1 m y ds z = some (r, z)
  | [], w, z, r, w', e => by
    simp only [compL2, Option.some.injEq, Prod.mk.injEq] at e ⊢
    exact ⟨e.2.symm, e.1, trivial⟩
  | d :: ds, w, z, r, w', e => by
    simp only [compL2] at e
    obtain ⟨x1, q1, e1⟩ := obind e
    obtain ⟨y1, k1, l1⟩ := hb _ _ y _ l q1
    obtain ⟨⟨c, w1⟩, q2, e2⟩ := obind e1
    obtain ⟨rfl, k2⟩ := ht _ y1 _ z _ _ l1 q2
    cases c with
    | true =>
      rw [if_pos rfl] at e2
      obtain ⟨⟨v, w2⟩, q3, e3⟩ := obind e2
      obtain ⟨rfl, k3⟩ := hi _ y1 _ z _ _ l1 q3
      obtain ⟨⟨r1, w3⟩, q4, e4⟩ := obind e3
      obtain ⟨rfl, k4⟩ := pu_compL hb1 ht1 hm (l1.wipe vs) _ _ z _ _ q4
      obtain ⟨⟨r2, w4⟩, q5, e5⟩ := omap e4
      obtain ⟨rfl, k5⟩ := pu_compL2 hb ht hi hb1 ht1 hm l ds _ z _ _ q5
      cases e5
      exact ⟨rfl, by simp [compL2, k1, k2, k3, k4, k5]⟩
    | false =>
      rw [if_neg (by simp)] at e2
      obtain ⟨rfl, k4⟩ := pu_compL2 hb ht hi hb1 ht1 hm l ds _ z _ _ e2
      exact ⟨rfl, by simp [compL2, k1, k2, k4]⟩
theorem pu_comp2 {vs : List Nat} {it : IM} {b : BM} {t : TM} {it1 : IM} {vs1 : List Nat} {b1 : BM} {t1 : TM} {m : EM} (hi : PuI it) (hb : PuB b) (ht : PuT t) (hi1 : PuI it1) (hb1 : PuB b1) (ht1 : PuT t1) (hm : PuE m) : PuE (eComp2 vs it b t it1 vs1 b1 t1 m) := fun x y w z d fr w' l e => by
  obtain ⟨⟨ds, w1⟩, q1, e1⟩ := obind e
  obtain ⟨rfl, k1⟩ := hi _ y _ z _ _ l q1
  obtain ⟨⟨r, w2⟩, q2, e2⟩ := obind e1
  obtain ⟨rfl, k2⟩ := pu_compL2 hb ht hi1 hb1 ht1 hm (l.wipe vs) ds _ z _ _ q2
  by_cases hl : r.length ≤ lim
  · rw [if_pos hl] at e2
    cases e2
    exact ⟨rfl, by simp only [eComp2, k1, k2, Option.bind_some]; rw [if_pos hl]⟩
  · rw [if_neg hl] at e2; cases e2
/-! ### statements -/
theorem pus_nil : PuS sNil := fun a b w z l => ⟨rfl, b, rfl, l⟩
theorem pus_bk : PuS sBk := fun a b w z l => ⟨rfl, b, rfl, l⟩
theorem pus_ct : PuS sCt := fun a b w z l => ⟨rfl, b, rfl, l⟩
theorem pus_retN : PuS sRetN := fun a b w z l => ⟨rfl, b, rfl, l⟩
theorem pus_bad : PuS sBad := fun a b w z l => trivial
theorem pus_seq {m n : SM} (h1 : PuS m) (h2 : PuS n) : PuS (sSeq m n) := fun a b w z l => by
  have k := h1 a b w z l
  unfold sSeq
  generalize m a w = r at k
  cases r with
  | nx a1 w1 =>
    obtain ⟨rfl, b1, e, l1⟩ := k
    rw [e]
    exact h2 a1 b1 w1 z l1
  | bk a1 w1 => obtain ⟨rfl, b1, e, l1⟩ := k; rw [e]; exact ⟨rfl, b1, rfl, l1⟩
  | ct a1 w1 => obtain ⟨rfl, b1, e, l1⟩ := k; rw [e]; exact ⟨rfl, b1, rfl, l1⟩
  | rt d fr a1 w1 => obtain ⟨rfl, b1, e, l1⟩ := k; rw [e]; exact ⟨rfl, b1, rfl, l1⟩
  | bad => trivial
theorem pus_set {i : Nat} {m : EM} (h : PuE m) : PuS (sSet i m) := fun a b w z l => by
  unfold sSet
  cases q : m a w with
  | none => trivial
  | some r =>
    obtain ⟨d, fr, w1⟩ := r
    obtain ⟨rfl, k⟩ := h a b w z d fr w1 l q
    rw [k]
    exact ⟨rfl, _, rfl, l.set i _⟩
theorem pus_setO {i : Nat} {m : EM} (h : PuE m) : PuS (sSetO i m) := fun a b w z l => by
  unfold sSetO
  cases q : m a w with
  | none => trivial
  | some r =>
    obtain ⟨d, fr, w1⟩ := r
    obtain ⟨rfl, k⟩ := h a b w z d fr w1 l q
    rw [k]
    cases fr <;> exact ⟨rfl, _, rfl, l.set i _⟩
theorem pus_frz {i : Nat} {m : SM} (h : PuS m) : PuS (sFrz i m) := fun a b w z l => by
  have go : ∀ (q : a[i]? = none ∨ a[i]? = some Slot.un), PuR (m a w) (match b[i]? with | some (.ow d) => m (b.set i (.sh d)) z | _ => m b z) w z := fun q => by
    split
    · exact h a _ w z (l.setR q)
    · exact h a b w z l
  unfold sFrz
  cases q : a[i]? with
  | none => exact go (.inl q)
  | some s =>
    cases s with
    | un => exact go (.inr q)
    | sh d => rw [l.sh q]; exact h a b w z l
    | ow d => rw [l.ow q]; exact h _ _ w z (l.set i _)
theorem pus_ret {m : EM} (h : PuE m) : PuS (sRet m) := fun a b w z l => by
  unfold sRet
  cases q : m a w with
  | none => trivial
  | some r =>
    obtain ⟨d, fr, w1⟩ := r
    obtain ⟨rfl, k⟩ := h a b w z d fr w1 l q
    rw [k]
    exact ⟨rfl, _, rfl, l⟩
theorem pus_retO {i : Nat} : PuS (sRetO i) := fun a b w z l => by
  unfold sRetO
  cases q : a[i]? with
  | none => trivial
  | some s =>
    cases s with
    | un => trivial
    | sh d => rw [l.sh q]; exact ⟨rfl, _, rfl, l⟩
    | ow d => rw [l.ow q]; exact ⟨rfl, _, rfl, l⟩
theorem pus_if {c : TM} {m n : SM} (h : PuT c) (h1 : PuS m) (h2 : PuS n) : PuS (sIf c m n) := fun a b w z l => by
  unfold sIf
  cases q : c a w with
  | none => trivial
  | some r =>
    obtain ⟨d, w1⟩ := r
    obtain ⟨rfl, k⟩ := h a b w z d w1 l q
    rw [k]
    cases d with
    | true => exact h1 a b w1 z l
    | false => exact h2 a b w1 z l
theorem pus_expr {m : EM} (h : PuE m) : PuS (sExpr m) := fun a b w z l => by
  unfold sExpr
  cases q : m a w with
  | none => trivial
  | some r =>
    obtain ⟨d, fr, w1⟩ := r
    obtain ⟨rfl, k⟩ := h a b w z d fr w1 l q
    rw [k]
    exact ⟨rfl, _, rfl, l⟩
theorem pus_aug {i : Nat} {f : D → D → Option (D × Bool)} {m : OM} (h : PuO m) : PuS (sAug i f m) := fun a b w z l => by
  unfold sAug
  cases q : a[i]? with
  | none => trivial
  | some s =>
    cases s with
    | un => trivial
    | ow d => trivial
    | sh d =>
      rw [l.sh q]
      simp only
      cases q2 : m a w with
      | none => trivial
      | some r =>
        obtain ⟨e, w1⟩ := r
        obtain ⟨rfl, k⟩ := h a b w z e w1 l q2
        rw [k]
        simp only
        cases q3 : f d e with
        | none => trivial
        | some r =>
          obtain ⟨v, fr⟩ := r
          cases fr with
          | true => trivial
          | false => exact ⟨rfl, _, rfl, l.set i _⟩
theorem pus_asg {m : EM} {t : BM} (h : PuE m) (h2 : PuB t) : PuS (sAsg m t) := fun a b w z l => by
  unfold sAsg
  cases q : m a w with
  | none => trivial
  | some r =>
    obtain ⟨d, fr, w1⟩ := r
    obtain ⟨rfl, k⟩ := h a b w z d fr w1 l q
    rw [k]
    simp only
    cases q2 : t d a with
    | none => trivial
    | some a1 =>
      obtain ⟨b1, k1, l1⟩ := h2 _ _ b _ l q2
      rw [k1]
      exact ⟨rfl, _, rfl, l1⟩
theorem pus_par {i j : Nat} {m : AM} (h : PuA m) : PuS (sPar i j m) := fun a b w z l => by
  unfold sPar
  cases q : m a w with
  | none => trivial
  | some r =>
    obtain ⟨ds, w1⟩ := r
    obtain ⟨rfl, k⟩ := h a b w z ds w1 l q
    rw [k]
    match ds with
    | [] => trivial
    | [_] => trivial
    | [d, e] => exact ⟨rfl, _, rfl, (l.set i _).set j _⟩
    | _ :: _ :: _ :: _ => trivial
theorem pus_parO {i j : Nat} {m n : EM} (h1 : PuE m) (h2 : PuE n) : PuS (sParO i j m n) := fun a b w z l => by
  unfold sParO
  cases q : m a w with
  | none => trivial
  | some r =>
    obtain ⟨d, fr, w1⟩ := r
    obtain ⟨rfl, k⟩ := h1 a b w z d fr w1 l q
    rw [k]
    simp only
    cases q2 : n a w1 with
    | none => trivial
    | some r =>
      obtain ⟨e, fr2, w2⟩ := r
      obtain ⟨rfl, k2⟩ := h2 a b _ z e fr2 w2 l q2
      rw [k2]
      exact ⟨rfl, _, rfl, (l.set i _).set j _⟩
theorem pu_forL {t : BM} {m : SM} (h1 : PuB t) (h2 : PuS m) : ∀ (ds : List D) (a b : Env') (w z : Int), Le a b → PuR (forL t m ds a w) (forL t m ds b z) w z
  | [], a, b, w, z, l => ⟨rfl, b, rfl, l⟩
  | d :: ds, a, b, w, z, l => by
    unfold forL
    cases q : t d a with
    | none => trivial
    | some a1 =>
      obtain ⟨b1, k1, l1⟩ := h1 _ _ b _ l q
      rw [k1]
      simp only
      have k := h2 a1 b1 w z l1
      generalize m a1 w = r at k
      cases r with
      | nx a2 w1 => obtain ⟨rfl, b2, e, l2⟩ := k; rw [e]; exact pu_forL h1 h2 ds a2 b2 w1 z l2
      | ct a2 w1 => obtain ⟨rfl, b2, e, l2⟩ := k; rw [e]; exact pu_forL h1 h2 ds a2 b2 w1 z l2
      | bk a2 w1 => obtain ⟨rfl, b2, e, l2⟩ := k; rw [e]; exact ⟨rfl, b2, rfl, l2⟩
      | rt d fr a2 w1 => obtain ⟨rfl, b2, e, l2⟩ := k; rw [e]; exact ⟨rfl, b2, rfl, l2⟩
      | bad => trivial
theorem pus_for {it : IM} {t : BM} {m : SM} (hi : PuI it) (h1 : PuB t) (h2 : PuS m) : PuS (sFor it t m) := fun a b w z l => by
  unfold sFor
  cases q : it a w with
  | none => trivial
  | some r =>
    obtain ⟨ds, w1⟩ := r
    obtain ⟨rfl, k⟩ := hi a b w z ds w1 l q
    rw [k]
    exact pu_forL h1 h2 ds a b w1 z l
theorem pus_while {c : TM} {m : SM} (h1 : PuT c) (h2 : PuS m) : ∀ n, PuS (whileN c m n)
  | 0 => fun a b w z l => trivial
  | n + 1 => fun a b w z l => by
    unfold whileN
    cases q : c a w with
    | none => trivial
    | some r =>
      obtain ⟨d, w1⟩ := r
      obtain ⟨rfl, k⟩ := h1 a b w z d w1 l q
      rw [k]
      cases d with
      | false => exact ⟨rfl, b, rfl, l⟩
      | true =>
        simp only
        have k := h2 a b w1 z l
        generalize m a w1 = r at k
        cases r with
        | nx a2 w1 => obtain ⟨rfl, b2, e, l2⟩ := k; rw [e]; exact pus_while h1 h2 n a2 b2 w1 z l2
        | ct a2 w1 => obtain ⟨rfl, b2, e, l2⟩ := k; rw [e]; exact pus_while h1 h2 n a2 b2 w1 z l2
        | bk a2 w1 => obtain ⟨rfl, b2, e, l2⟩ := k; rw [e]; exact ⟨rfl, b2, rfl, l2⟩
        | rt d fr a2 w1 => obtain ⟨rfl, b2, e, l2⟩ := k; rw [e]; exact ⟨rfl, b2, rfl, l2⟩
        | bad => trivial
theorem pus_app {i : Nat} {m : EM} (h : PuE m) : PuS (sApp i m) := fun a b w z l => by
  unfold sApp
  cases q : a[i]? with
  | none => trivial
  | some s =>
    cases s with
    | un => trivial
    | sh d => trivial
    | ow d =>
      rw [l.ow q]
      cases d with
      | lst xs =>
        simp only
        cases q2 : m a w with
        | none => trivial
        | some r =>
          obtain ⟨e, fr, w1⟩ := r
          obtain ⟨rfl, k⟩ := h a b w z e fr w1 l q2
          rw [k]
          simp only
          by_cases hl : xs.length < lim
          · rw [if_pos hl, if_pos hl]; exact ⟨rfl, _, rfl, l.set i _⟩
          · rw [if_neg hl]; trivial
      | _ => trivial
theorem pus_ext {i : Nat} {m : OM} (h : PuO m) : PuS (sExt i m) := fun a b w z l => by
  unfold sExt
  cases q : a[i]? with
  | none => trivial
  | some s =>
    cases s with
    | un => trivial
    | sh d => trivial
    | ow d =>
      rw [l.ow q]
      cases d with
      | lst xs =>
        simp only
        cases q2 : m a w with
        | none => trivial
        | some r =>
          obtain ⟨e, w1⟩ := r
          obtain ⟨rfl, k⟩ := h a b w z e w1 l q2
          rw [k]
          cases e with
          | lst ys =>
            simp only
            by_cases hl : xs.length + ys.length ≤ lim
            · rw [if_pos hl, if_pos hl]; exact ⟨rfl, _, rfl, l.set i _⟩
            · rw [if_neg hl]; trivial
          | _ => trivial
      | _ => trivial
theorem pus_setIx {i : Nat} {mk : OM} {m : EM} (hk : PuO mk) (h : PuE m) : PuS (sSetIx i mk m) := fun a b w z l => by
  unfold sSetIx
  cases q2 : m a w with
  | none => trivial
  | some r =>
    obtain ⟨e, fr, w1⟩ := r
    obtain ⟨rfl, k⟩ := h a b w z e fr w1 l q2
    rw [k]
    simp only
    cases q : a[i]? with
    | none => trivial
    | some s =>
      cases s with
      | un => trivial
      | sh d => trivial
      | ow d =>
        rw [l.ow q]
        cases d with
        | lst xs =>
          simp only
          cases q3 : mk a w1 with
          | none => simp only; trivial
          | some r =>
            obtain ⟨j, w2⟩ := r
            obtain ⟨rfl, k⟩ := hk a b _ z j w2 l q3
            rw [k]
            cases j with
            | int j =>
              simp only
              cases ixN xs.length j with
              | none => trivial
              | some n => exact ⟨rfl, _, rfl, l.set i _⟩
            | _ => trivial
        | _ => trivial
/-! ### a def -/
theorem puf_zero : PuF (fun _ _ => none) := fun ds w z d fr w' h => by cases h
theorem puf_run {np nl : Nat} {m : SM} (h : PuS m) : PuF (runDef np nl m) := fun ds w z d fr w' e => by
  unfold runDef at e ⊢
  split at e
  · rename_i hl
    rw [if_pos hl]
    have k := h (ds.map .sh ++ List.replicate nl .un) _ w z (Le.refl _)
    generalize m (ds.map .sh ++ List.replicate nl .un) w = r at k e
    cases r with
    | nx a2 w1 =>
      obtain ⟨rfl, b2, q, l2⟩ := k
      rw [q]
      simp only [Option.some.injEq, Prod.mk.injEq] at e ⊢
      exact ⟨e.2.2.symm, e.1, e.2.1, trivial⟩
    | rt d fr a2 w1 =>
      obtain ⟨rfl, b2, q, l2⟩ := k
      rw [q]
      simp only [Option.some.injEq, Prod.mk.injEq] at e ⊢
      exact ⟨e.2.2.symm, e.1, e.2.1, trivial⟩
    | _ => cases e
  · cases e
end Tw

/-! the same answers, in a form that a kernel reckons fast -/
namespace Tw
open PySem PySem.Spec PyProof.Rows L2 PySem.W
def cI : Int → Int → Ordering
  | .ofNat a, .ofNat b => bif Nat.beq a b then .eq else bif Nat.blt a b then .lt else .gt
  | .ofNat _, .negSucc _ => .gt
  | .negSucc _, .ofNat _ => .lt
  | .negSucc a, .negSucc b => bif Nat.beq a b then .eq else bif Nat.blt b a then .lt else .gt
def cN : List Nat → List Nat → Ordering
  | [], [] => .eq
  | [], _ :: _ => .lt
  | _ :: _, [] => .gt
  | x :: xs, y :: ys => bif Nat.beq x y then cN xs ys else bif Nat.blt x y then .lt else .gt
def okL : List Nat → Bool
  | [] => true
  | x :: xs => bif Nat.blt x 1114112 then okL xs else false
theorem nblt (a b : Nat) : Nat.blt a b = decide (a < b) := Bool.eq_iff_iff.mpr (by rw [Nat.blt, Nat.ble_eq, decide_eq_true_iff]; exact Iff.rfl)
theorem nbeq (a b : Nat) : Nat.beq a b = decide (a = b) := Bool.eq_iff_iff.mpr (by rw [Nat.beq_eq, decide_eq_true_iff])
theorem okL_ok : ∀ {xs : List Nat}, okL xs = true → xs.all (· < 1114112) = true
  | [], _ => rfl
  | x :: xs, h => by
    unfold okL at h
    rw [List.all_cons]
    cases q : Nat.blt x 1114112 with
    | true => rw [q] at h; have := okL_ok h; rw [this]; rw [nblt] at q; rw [q]; rfl
    | false => rw [q] at h; cases h
theorem strOk_of {x : Str} (h : okL x.cps.toList = true) : PySem.PyData.strOk x = true := by
  have := okL_ok h
  unfold PySem.PyData.strOk
  rw [← Array.all_toList]
  exact this
/-- what a comparison has told -/
structure CO (b e l m : Bool) (o : Ordering) : Prop where
  al : b = true
  eq : e = (o == .eq)
  lt : l = (o == .lt)
  gt : m = (o == .gt)
theorem cI_ok (i j : Int) : (i == j) = (cI i j == .eq) ∧ decide (i < j) = (cI i j == .lt) ∧ decide (j < i) = (cI i j == .gt) ∧ (cI i j = .eq → i = j) := by
  have bl := nblt
  have be := nbeq
  cases i with
  | ofNat a =>
    cases j with
    | ofNat b =>
      simp only [cI, bl, be, Int.ofNat_eq_natCast]
      by_cases h : a = b
      · subst h; simp
      · have h' : ¬((a : Int) = b) := by omega
        by_cases h2 : a < b
        · have : ¬ (b < a) := by omega
          simp [h, h2, this, h', cond]
        · have : b < a := by omega
          simp [h, h2, this, h', cond]
    | negSucc b =>
      have h1 : ¬ ((Int.ofNat a) < Int.negSucc b) := by rw [Int.ofNat_eq_natCast]; omega
      have h2 : (Int.negSucc b) < Int.ofNat a := by rw [Int.ofNat_eq_natCast]; omega
      have h3 : ¬ (Int.ofNat a = Int.negSucc b) := by rw [Int.ofNat_eq_natCast]; omega
      simp only [cI, decide_eq_false h1, decide_eq_true h2]
      refine ⟨?_, rfl, rfl, fun q => by cases q⟩
      rw [beq_eq_false_iff_ne.mpr h3]; rfl
  | negSucc a =>
    cases j with
    | ofNat b =>
      have h1 : ¬ ((Int.ofNat b) < Int.negSucc a) := by rw [Int.ofNat_eq_natCast]; omega
      have h2 : (Int.negSucc a) < Int.ofNat b := by rw [Int.ofNat_eq_natCast]; omega
      have h3 : ¬ (Int.negSucc a = Int.ofNat b) := by rw [Int.ofNat_eq_natCast]; omega
      simp only [cI, decide_eq_false h1, decide_eq_true h2]
      refine ⟨?_, rfl, rfl, fun q => by cases q⟩
      rw [beq_eq_false_iff_ne.mpr h3]; rfl
    | negSucc b =>
      simp only [cI, bl, be]
      by_cases h : a = b
      · subst h; simp
      · have h' : ¬(Int.negSucc a = Int.negSucc b) := by omega
        by_cases h2 : b < a
        · have h3 : ¬ (a < b) := by omega
          have h4 : (Int.negSucc a) < Int.negSucc b := by omega
          have h5 : ¬ (Int.negSucc b) < Int.negSucc a := by omega
          simp [h, h2, h4, h5, h', cond]
        · have h3 : a < b := by omega
          have h4 : ¬ (Int.negSucc a) < Int.negSucc b := by omega
          have h5 : (Int.negSucc b) < Int.negSucc a := by omega
          simp [h, h2, h4, h5, h', cond]
theorem cN_ok : ∀ x y : List Nat, (cN x y = .eq ↔ x = y) ∧ decide (x < y) = (cN x y == .lt) ∧ decide (y < x) = (cN x y == .gt)
  | [], [] => by simp [cN]
  | [], _ :: _ => by simp [cN]
  | _ :: _, [] => by simp [cN]
  | x :: xs, y :: ys => by
    obtain ⟨h1, h2, h3⟩ := cN_ok xs ys
    unfold cN
    by_cases h : x = y
    · subst h
      have : Nat.beq x x = true := Nat.beq_refl x
      rw [this]
      simp only [cond_true]
      refine ⟨by rw [h1]; simp, ?_, ?_⟩
      · rw [← h2]; simp [List.cons_lt_cons_iff]
      · rw [← h3]; simp [List.cons_lt_cons_iff]
    · have e0 : Nat.beq x y = false := by
        cases q : Nat.beq x y with
        | false => rfl
        | true => exact absurd (Nat.eq_of_beq_eq_true q) h
      rw [e0]
      simp only [cond_false]
      have h' : ¬ y = x := fun q => h q.symm
      by_cases h4 : x < y
      · have e1 : Nat.blt x y = true := by rw [nblt]; exact decide_eq_true h4
        have h5 : ¬ y < x := by omega
        rw [e1]
        refine ⟨by simp [h], ?_, ?_⟩
        · simp [List.cons_lt_cons_iff, h4]
        · simp [List.cons_lt_cons_iff, h5, h']
      · have h5 : y < x := by omega
        have e1 : Nat.blt x y = false := by rw [nblt]; exact decide_eq_false h4
        rw [e1]
        refine ⟨by simp [h], ?_, ?_⟩
        · simp [List.cons_lt_cons_iff, h4, h]
        · simp [List.cons_lt_cons_iff, h5]
def cL (f : D → D → Option Ordering) (p : D → Bool) : List D → List D → Option Ordering
  | [], [] => some .eq
  | [], y :: ys => if (y :: ys).all p then some .lt else none
  | x :: xs, [] => if (x :: xs).all p then some .gt else none
  | x :: xs, y :: ys => match f x y with
    | none => none
    | some o => match cL f p xs ys with
      | none => none
      | some o2 => some (match o with
        | .eq => o2
        | r => r)
def cF : Nat → D → D → Option Ordering
  | _, .int i, .int j => some (cI i j)
  | _, .str x, .str y => if okL x.cps.toList && okL y.cps.toList then some (cN x.cps.toList y.cps.toList) else none
  | n + 1, .tup xs, .tup ys => cL (cF n) (plainN n) xs ys
  | n + 1, .lst xs, .lst ys => cL (cF n) (plainN n) xs ys
  | _, _, _ => none
/-- what cF tells -/
structure Told (n : Nat) (d e : D) (o : Ordering) : Prop where
  p1 : plainN n d = true
  p2 : plainN n e = true
  a1 : alike (py d) (py e) = true
  a2 : alike (py e) (py d) = true
  e1 : PyData.eqv (py d) (py e) = (o == .eq)
  e2 : PyData.eqv (py e) (py d) = (o == .eq)
  l1 : dataLt (py d) (py e) = (o == .lt)
  l2 : dataLt (py e) (py d) = (o == .gt)
  same : o = .eq → d = e
  non : isNon d = false
structure ToldL (p : D → Bool) (d e : List D) (o : Ordering) : Prop where
  p1 : d.all p = true
  p2 : e.all p = true
  a1 : alikeAll (pys d) (pys e) = true
  a2 : alikeAll (pys e) (pys d) = true
  e1 : PyData.eqvAll (pys d) (pys e) = (o == .eq)
  e2 : PyData.eqvAll (pys e) (pys d) = (o == .eq)
  l1 : PyProof.Rows.lexLt itemOrd (keyToksAll (pys d)) (keyToksAll (pys e)) = (o == .lt)
  l2 : PyProof.Rows.lexLt itemOrd (keyToksAll (pys e)) (keyToksAll (pys d)) = (o == .gt)
  same : o = .eq → d = e
theorem lex_nc (y : PyData) (ys : List PyData) : PyProof.Rows.lexLt itemOrd (keyToksAll []) (keyToksAll (y :: ys)) = true ∧ PyProof.Rows.lexLt itemOrd (keyToksAll (y :: ys)) (keyToksAll []) = false := by
  rw [toks_all_cons]
  simp only [keyToksAll]
  constructor
  · rw [PyProof.Rows.lex_cons]; rfl
  · rw [PyProof.Rows.lex_cons]; rfl
theorem cL_ok {f : D → D → Option Ordering} {n : Nat} (hf : ∀ d e o, f d e = some o → Told n d e o) : ∀ (xs ys : List D) (o : Ordering), cL f (plainN n) xs ys = some o → ToldL (plainN n) xs ys o
  | [], [], o, h => by
    cases h
    exact ⟨rfl, rfl, by simp [pys, alikeAll], by simp [pys, alikeAll], by simp [pys, PyData.eqvAll], by simp [pys, PyData.eqvAll], by simp only [pys, keyToksAll]; rfl, by simp only [pys, keyToksAll]; rfl, fun _ => rfl⟩
  | [], y :: ys, o, h => by
    unfold cL at h
    split at h
    · rename_i hp
      cases h
      exact ⟨rfl, hp, by simp [pys, alikeAll], by simp [pys, alikeAll], by simp [pys, PyData.eqvAll], by simp [pys, PyData.eqvAll], (lex_nc _ _).1, (lex_nc _ _).2, fun q => by cases q⟩
    · cases h
  | x :: xs, [], o, h => by
    unfold cL at h
    split at h
    · rename_i hp
      cases h
      exact ⟨hp, rfl, by simp [pys, alikeAll], by simp [pys, alikeAll], by simp [pys, PyData.eqvAll], by simp [pys, PyData.eqvAll], (lex_nc _ _).2, (lex_nc _ _).1, fun q => by cases q⟩
    · cases h
  | x :: xs, y :: ys, o, h => by
    unfold cL at h
    split at h
    · cases h
    · rename_i o1 q1
      split at h
      · cases h
      · rename_i o2 q2
        have k1 := hf _ _ _ q1
        have k2 := cL_ok hf _ _ _ q2
        cases h
        have a1 : alikeAll (pys (x :: xs)) (pys (y :: ys)) = true := by simp only [pys, alikeAll, k1.a1, k2.a1]; rfl
        have a2 : alikeAll (pys (y :: ys)) (pys (x :: xs)) = true := by simp only [pys, alikeAll, k1.a2, k2.a2]; rfl
        have pp1 : (x :: xs).all (plainN n) = true := by rw [List.all_cons, k1.p1, k2.p1]; rfl
        have pp2 : (y :: ys).all (plainN n) = true := by rw [List.all_cons, k1.p2, k2.p2]; rfl
        have e1 : PyData.eqvAll (pys (x :: xs)) (pys (y :: ys)) = ((o1 == .eq) && (o2 == .eq)) := by simp only [pys, PyData.eqvAll, k1.e1, k2.e1]
        have e2 : PyData.eqvAll (pys (y :: ys)) (pys (x :: xs)) = ((o1 == .eq) && (o2 == .eq)) := by simp only [pys, PyData.eqvAll, k1.e2, k2.e2]
        cases o1 with
        | eq =>
          refine ⟨pp1, pp2, a1, a2, by rw [e1]; rfl, by rw [e2]; rfl, ?_, ?_, fun q => ?_⟩
          · simp only [pys]; rw [dataLt_all_yes k1.a1 (by rw [k1.e1]; rfl)]; exact k2.l1
          · simp only [pys]; rw [dataLt_all_yes k1.a2 (by rw [k1.e2]; rfl)]; exact k2.l2
          · rw [k1.same rfl, k2.same q]
        | lt =>
          refine ⟨pp1, pp2, a1, a2, by rw [e1]; rfl, by rw [e2]; rfl, ?_, ?_, fun q => by cases q⟩
          · simp only [pys]; rw [dataLt_all_no k1.a1 (by rw [k1.e1]; rfl)]; exact k1.l1
          · simp only [pys]; rw [dataLt_all_no k1.a2 (by rw [k1.e2]; rfl)]; exact k1.l2
        | gt =>
          refine ⟨pp1, pp2, a1, a2, by rw [e1]; rfl, by rw [e2]; rfl, ?_, ?_, fun q => by cases q⟩
          · simp only [pys]; rw [dataLt_all_no k1.a1 (by rw [k1.e1]; rfl)]; exact k1.l1
          · simp only [pys]; rw [dataLt_all_no k1.a2 (by rw [k1.e2]; rfl)]; exact k1.l2
theorem str_eq {x y : Str} (h : x.cps.toList = y.cps.toList) : x = y := PySem.W.str_of_cps h
theorem cF_int {n : Nat} {i j : Int} {o : Ordering} (h : some (cI i j) = some o) : Told n (.int i) (.int j) o := by
  cases h
  obtain ⟨h1, h2, h3, h4⟩ := cI_ok i j
  have h1' : (j == i) = (cI i j == .eq) := by rw [← h1]; exact Bool.eq_iff_iff.mpr (by simp; omega)
  refine ⟨by cases n <;> rfl, by cases n <;> rfl, by simp [py, alike], by simp [py, alike], by simpa [py, PyData.eqv] using h1, by simpa [py, PyData.eqv] using h1', ?_, ?_, fun q => by rw [h4 q], rfl⟩
  · simp only [py]; rw [dataLt_int]; exact h2
  · simp only [py]; rw [dataLt_int]; exact h3
theorem cF_str {n : Nat} {x y : Str} {o : Ordering} (h : (if okL x.cps.toList && okL y.cps.toList then some (cN x.cps.toList y.cps.toList) else none) = some o) : Told n (.str x) (.str y) o := by
  split at h
  · rename_i hp
    rw [Bool.and_eq_true] at hp
    cases h
    obtain ⟨h1, h2, h3⟩ := cN_ok x.cps.toList y.cps.toList
    have ex : (x == y) = (cN x.cps.toList y.cps.toList == .eq) := by
      by_cases q : x = y
      · subst q; rw [h1.mpr rfl]; simp
      · rw [beq_eq_false_iff_ne.mpr q]
        cases c : cN x.cps.toList y.cps.toList with
        | eq => exact absurd (str_eq (h1.mp c)) q
        | lt => rfl
        | gt => rfl
    have ey : (y == x) = (cN x.cps.toList y.cps.toList == .eq) := by rw [← ex]; exact Bool.eq_iff_iff.mpr (by simp; exact eq_comm)
    have sx := strOk_of hp.1
    have sy := strOk_of hp.2
    refine ⟨by cases n <;> simpa [plainN] using sx, by cases n <;> simpa [plainN] using sy, by simp [py, alike], by simp [py, alike], by simpa [py, PyData.eqv] using ex, by simpa [py, PyData.eqv] using ey, ?_, ?_, fun q => by rw [str_eq (h1.mp q)], rfl⟩
    · simp only [py]; rw [dataLt_str]; exact h2
    · simp only [py]; rw [dataLt_str]; exact h3
  · cases h
theorem cF_ok : ∀ (n : Nat) (d e : D) (o : Ordering), cF n d e = some o → Told n d e o := by
  intro n
  induction n with
  | zero =>
    intro d e o h
    cases d <;> cases e <;> first | exact cF_int (by simpa [cF] using h) | exact cF_str (by simpa only [cF] using h) | (simp only [cF] at h; cases h)
  | succ n ih =>
    intro d e o h
    cases d with
    | int i => cases e with
      | int j => exact cF_int (by simpa [cF] using h)
      | _ => simp only [cF] at h; cases h
    | str i => cases e with
      | str j => exact cF_str (by simpa only [cF] using h)
      | _ => simp only [cF] at h; cases h
    | tup xs => cases e with
      | tup ys =>
        have k := cL_ok ih xs ys o (by simpa only [cF] using h)
        exact ⟨by simpa [plainN] using k.p1, by simpa [plainN] using k.p2, by simpa [py, alike] using k.a1, by simpa [py, alike] using k.a2, by simpa [py, PyData.eqv] using k.e1, by simpa [py, PyData.eqv] using k.e2, by simp only [py]; rw [dataLt_tuple]; exact k.l1, by simp only [py]; rw [dataLt_tuple]; exact k.l2, fun q => by rw [k.same q], rfl⟩
      | _ => simp only [cF] at h; cases h
    | lst xs => cases e with
      | lst ys =>
        have k := cL_ok ih xs ys o (by simpa only [cF] using h)
        exact ⟨by simpa [plainN] using k.p1, by simpa [plainN] using k.p2, by simpa [py, alike] using k.a1, by simpa [py, alike] using k.a2, by simpa [py, PyData.eqv] using k.e1, by simpa [py, PyData.eqv] using k.e2, by simp only [py]; rw [dataLt_list]; exact k.l1, by simp only [py]; rw [dataLt_list]; exact k.l2, fun q => by rw [k.same q], rfl⟩
      | _ => simp only [cF] at h; cases h
    | _ => cases e <;> (simp only [cF] at h; cases h)
/-! ### the comparisons -/
def fEq (d e : D) : Option Bool := match cF 60 d e with
  | some o => some (o == .eq)
  | none => dEq d e
def fNe (d e : D) : Option Bool := match cF 60 d e with
  | some o => some (!(o == .eq))
  | none => dNe d e
def fLt (d e : D) : Option Bool := match cF 60 d e with
  | some o => some (o == .lt)
  | none => dLtD d e
def fGt (d e : D) : Option Bool := match cF 60 d e with
  | some o => some (o == .gt)
  | none => dGtD d e
def fLe (d e : D) : Option Bool := match cF 60 d e with
  | some o => some (!(o == .gt))
  | none => dLeD d e
def fGe (d e : D) : Option Bool := match cF 60 d e with
  | some o => some (!(o == .lt))
  | none => dGeD d e
theorem Told.ord {d e : D} {o : Ordering} (t : Told 60 d e o) : ordOk d e = true := by
  unfold ordOk; rw [show plain d = true from t.p1, show plain e = true from t.p2, t.a1, t.non]; rfl
theorem fEq_ok {d e : D} {b : Bool} (h : fEq d e = some b) : dEq d e = some b := by
  unfold fEq at h
  split at h
  · rename_i o q
    have t := cF_ok 60 d e o q
    cases h
    unfold dEq
    rw [show plain d = true from t.p1, show plain e = true from t.p2, t.e1]; rfl
  · exact h
theorem fNe_ok {d e : D} {b : Bool} (h : fNe d e = some b) : dNe d e = some b := by
  unfold fNe at h
  split at h
  · rename_i o q
    have t := cF_ok 60 d e o q
    cases h
    unfold dNe
    rw [show plain d = true from t.p1, show plain e = true from t.p2, t.e1]; rfl
  · exact h
theorem fLt_ok {d e : D} {b : Bool} (h : fLt d e = some b) : dLtD d e = some b := by
  unfold fLt at h
  split at h
  · rename_i o q
    have t := cF_ok 60 d e o q
    cases h
    unfold dLtD
    rw [if_pos t.ord, t.l1]
  · exact h
theorem fGt_ok {d e : D} {b : Bool} (h : fGt d e = some b) : dGtD d e = some b := by
  unfold fGt at h
  split at h
  · rename_i o q
    have t := cF_ok 60 d e o q
    cases h
    unfold dGtD
    rw [if_pos t.ord, t.l2]
  · exact h
theorem fLe_ok {d e : D} {b : Bool} (h : fLe d e = some b) : dLeD d e = some b := by
  unfold fLe at h
  split at h
  · rename_i o q
    have t := cF_ok 60 d e o q
    cases h
    unfold dLeD
    rw [if_pos t.ord, t.l2]
  · exact h
theorem fGe_ok {d e : D} {b : Bool} (h : fGe d e = some b) : dGeD d e = some b := by
  unfold fGe at h
  split at h
  · rename_i o q
    have t := cF_ok 60 d e o q
    cases h
    unfold dGeD
    rw [if_pos t.ord, t.l1]
  · exact h
section
variable {g : Gc} {X : Cx}
theorem cmp_wk {f f' : D → D → Option Bool} {op : CmpOp} (h : ∃ r, OpR X (compareOp op) r ∧ CmpOk g f r) (w : ∀ {d e b}, f' d e = some b → f d e = some b) : ∃ r, OpR X (compareOp op) r ∧ CmpOk g f' r := by
  obtain ⟨r, h1, h2⟩ := h
  exact ⟨r, h1, fun Q a b c d e q => h2 Q a b c d (w e) q⟩
theorem cmp_fEq (hX : Of X g) (hu : X.A.units + 64 < cLine) : ∃ r, OpR X (compareOp .Eq) r ∧ CmpOk g fEq r := cmp_wk (cmp_eq (g := g) hX hu) fEq_ok
theorem cmp_fNe (hX : Of X g) (hu : X.A.units + 64 < cLine) : ∃ r, OpR X (compareOp .NotEq) r ∧ CmpOk g fNe r := cmp_wk (cmp_ne (g := g) hX hu) fNe_ok
theorem cmp_fLt (hX : Of X g) (hu : X.A.units + 64 < cLine) : ∃ r, OpR X (compareOp .Lt) r ∧ CmpOk g fLt r := cmp_wk (cmp_lt (g := g) hX hu) fLt_ok
theorem cmp_fGt (hX : Of X g) (hu : X.A.units + 64 < cLine) : ∃ r, OpR X (compareOp .Gt) r ∧ CmpOk g fGt r := cmp_wk (cmp_gtD (g := g) hX hu) fGt_ok
theorem cmp_fLe (hX : Of X g) (hu : X.A.units + 64 < cLine) : ∃ r, OpR X (compareOp .LtE) r ∧ CmpOk g fLe r := cmp_wk (cmp_leD (g := g) hX hu) fLe_ok
theorem cmp_fGe (hX : Of X g) (hu : X.A.units + 64 < cLine) : ∃ r, OpR X (compareOp .GtE) r ∧ CmpOk g fGe r := cmp_wk (cmp_geD (g := g) hX hu) fGe_ok
end
end Tw
namespace Tw
open PySem PySem.Spec PyProof.Rows L2 PySem.W
/-! ### in -/
theorem plain_up : ∀ (n : Nat) (d : D), plainN n d = true → plainN (n + 1) d = true := by
  intro n
  induction n with
  | zero => intro d h; cases d <;> simp [plainN] at h ⊢ <;> exact h
  | succ n ih =>
    intro d h
    cases d <;> simp only [plainN] at h ⊢ <;> first | exact h | (rw [List.all_eq_true] at h ⊢; exact fun x hx => ih x (h x hx)) | cases h
def inF (d : D) : List D → Option Bool
  | [] => some false
  | y :: ys => match cF 59 y d with
    | none => none
    | some o => match inF d ys with
      | none => none
      | some b => some (match o with
        | .eq => true
        | _ => b)
theorem inF_ok {d : D} : ∀ {xs : List D} {b : Bool}, inF d xs = some b → xs.all (plainN 59) = true ∧ (xs ≠ [] → plainN 60 d = true) ∧ ((pys xs).any fun y => PyData.eqv y (py d)) = b
  | [], b, h => by cases h; exact ⟨rfl, fun q => absurd rfl q, rfl⟩
  | y :: ys, b, h => by
    unfold inF at h
    split at h
    · cases h
    · rename_i o q
      have t := cF_ok _ _ _ _ q
      split at h
      · cases h
      · rename_i c q2
        obtain ⟨h1, _, h3⟩ := inF_ok q2
        cases h
        refine ⟨by rw [List.all_cons, t.p1, h1]; rfl, fun _ => plain_up 59 d t.p2, ?_⟩
        simp only [pys, List.any_cons, h3, t.e1]
        cases o <;> rfl
def fIn (d e : D) : Option Bool := match e with
  | .lst [] => dIn d e
  | .lst (x :: xs) => match inF d (x :: xs) with
    | some b => some b
    | none => dIn d e
  | e => dIn d e
theorem fIn_ok {d e : D} {b : Bool} (h : fIn d e = some b) : dIn d e = some b := by
  unfold fIn at h
  split at h
  · exact h
  · rename_i x xs
    split at h
    · rename_i c q
      obtain ⟨h1, h2, h3⟩ := inF_ok q
      cases h
      simp only [dIn]
      rw [if_pos (by rw [show plain d = true from h2 (by simp)]; simpa [plain, plainN] using h1), h3]
    · exact h
  · exact h
def fNotIn (d e : D) : Option Bool := (fIn d e).map (!·)
theorem fNotIn_ok {d e : D} {b : Bool} (h : fNotIn d e = some b) : dNotIn d e = some b := by
  obtain ⟨c, q, rfl⟩ := omap h
  unfold dNotIn
  rw [fIn_ok q]; rfl
section
variable {g : Gc} {X : Cx}
theorem cmp_fIn (hX : Of X g) (hu : X.A.units + 65 < cLine) : ∃ r, OpR X (compareOp .In) r ∧ CmpOk g fIn r := cmp_wk (cmp_in (g := g) hX hu) fIn_ok
theorem cmp_fNotIn (hX : Of X g) (hu : X.A.units + 65 < cLine) : ∃ r, OpR X (compareOp .NotIn) r ∧ CmpOk g fNotIn r := cmp_wk (cmp_notIn (g := g) hX hu) fNotIn_ok
end
/-! ### sorted -/
theorem leD_total : TotalLe leD := by
  refine ⟨fun a b c h1 h2 => ?_, fun a b => ?_⟩
  · unfold leD at *
    simp only [Bool.not_eq_true'] at *
    cases q : dataLt (py c) (py a) with
    | false => rfl
    | true =>
      rcases PyProof.Rows.lex_negTrans (O := itemOrd) (keyToks (py c)) (keyToks (py b)) (keyToks (py a)) q with h | h
      · exact absurd (show dataLt (py c) (py b) = true from h) (by rw [h2]; simp)
      · exact absurd (show dataLt (py b) (py a) = true from h) (by rw [h1]; simp)
  · unfold leD
    simp only [Bool.not_eq_true']
    cases q : dataLt (py b) (py a) with
    | false => exact .inl rfl
    | true =>
      refine .inr ?_
      cases q2 : dataLt (py a) (py b) with
      | false => rfl
      | true =>
        have := PyProof.Rows.lex_trans (O := itemOrd) _ _ _ (show PyProof.Rows.lexLt itemOrd (keyToks (py b)) (keyToks (py a)) = true from q) (show PyProof.Rows.lexLt itemOrd (keyToks (py a)) (keyToks (py b)) = true from q2)
        rw [PyProof.Rows.lex_irrefl] at this; cases this
def insF {α : Type} (le : α → α → Bool) (x : α) : List α → List α
  | [] => [x]
  | y :: ys => bif le x y then x :: y :: ys else y :: insF le x ys
def srtF {α : Type} (le : α → α → Bool) : List α → List α
  | [] => []
  | x :: xs => insF le x (srtF le xs)
theorem insF_mem {α : Type} {le : α → α → Bool} {x z : α} : ∀ {ys : List α}, z ∈ insF le x ys → z = x ∨ z ∈ ys
  | [], h => by simp [insF] at h; exact .inl h
  | y :: ys, h => by
    unfold insF at h
    cases q : le x y with
    | true => rw [q] at h; simpa using h
    | false =>
      rw [q] at h
      simp only [cond_false, List.mem_cons] at h
      rcases h with h | h
      · exact .inr (by simp [h])
      · rcases insF_mem h with h | h
        · exact .inl h
        · exact .inr (by simp [h])
theorem insF_pw {α : Type} {le : α → α → Bool} (t : TotalLe le) {x : α} : ∀ {ys : List α}, ys.Pairwise (fun a b => le a b = true) → (insF le x ys).Pairwise (fun a b => le a b = true)
  | [], _ => by simp [insF]
  | y :: ys, h => by
    unfold insF
    rw [List.pairwise_cons] at h
    cases q : le x y with
    | true =>
      simp only [cond_true, List.pairwise_cons]
      refine ⟨fun z hz => ?_, h⟩
      rcases List.mem_cons.mp hz with rfl | hz
      · exact q
      · exact t.trans _ _ _ q (h.1 z hz)
    | false =>
      simp only [cond_false, List.pairwise_cons]
      refine ⟨fun z hz => ?_, insF_pw t h.2⟩
      rcases insF_mem hz with rfl | hz
      · exact (t.total y z).resolve_right (by rw [q]; simp)
      · exact h.1 z hz
theorem insF_keep {α : Type} {le : α → α → Bool} (t : TotalLe le) {x c : α} : ∀ {ys : List α}, (insF le x ys).filter (sameRank le c) = (x :: ys).filter (sameRank le c)
  | [] => rfl
  | y :: ys => by
    unfold insF
    cases q : le x y with
    | true => rfl
    | false =>
      simp only [cond_false]
      rw [List.filter_cons, insF_keep t]
      cases hx : sameRank le c x with
      | false =>
        rw [List.filter_cons_of_neg (by rw [hx]; simp), List.filter_cons_of_neg (by rw [hx]; simp), List.filter_cons]
      | true =>
        have hy : sameRank le c y = false := by
          cases hy : sameRank le c y with
          | false => rfl
          | true =>
            unfold sameRank at hx hy
            rw [Bool.and_eq_true] at hx hy
            rw [t.trans _ _ _ hx.2 hy.1] at q; cases q
        rw [hy, if_neg (by simp), List.filter_cons_of_pos hx, List.filter_cons_of_pos hx, List.filter_cons_of_neg (by rw [hy]; simp)]
theorem srtF_ok {α : Type} {le : α → α → Bool} (t : TotalLe le) : ∀ xs : List α, srtF le xs = xs.mergeSort le := fun xs => by
  refine sort_unique t ?_ fun c => ?_
  · induction xs with
    | nil => exact .nil
    | cons x xs ih => exact insF_pw t ih
  · induction xs with
    | nil => rfl
    | cons x xs ih => unfold srtF; rw [insF_keep t, List.filter_cons, List.filter_cons, ih]
def leF (a b : D) : Bool := match cF 60 a b with
  | some .gt => false
  | some _ => true
  | none => leD a b
theorem leF_eq : leF = leD := by
  funext a b
  unfold leF
  have k : ∀ o, cF 60 a b = some o → leD a b = !(o == .gt) := fun o q => by unfold leD; rw [(cF_ok _ _ _ _ q).l2]
  cases q : cF 60 a b with
  | none => rfl
  | some o => rw [k o q]; cases o <;> rfl
def isI : D → Bool
  | .int _ => true
  | _ => false
def isS : D → Bool
  | .str x => okL x.cps.toList
  | _ => false
def isT : D → Bool
  | .tup (y :: ys) => isI y && ys.all isI
  | _ => false
theorem isI_pl {n : Nat} {d : D} (h : isI d = true) : plainN n d = true := by
  cases d <;> simp [isI] at h
  cases n <;> rfl
theorem alikeI : ∀ {xs ys : List D}, xs.all isI = true → ys.all isI = true → alikeAll (pys xs) (pys ys) = true
  | [], _, _, _ => by simp [pys, alikeAll]
  | _ :: _, [], _, _ => by simp [pys, alikeAll]
  | x :: xs, y :: ys, h1, h2 => by
    rw [List.all_cons, Bool.and_eq_true] at h1 h2
    have ih := alikeI h1.2 h2.2
    cases x <;> simp [isI] at h1
    cases y <;> simp [isI] at h2
    simp [pys, py, alikeAll, alike, ih]
def kindOk (xs : List D) : Bool := xs.all isI || xs.all isS || xs.all isT
theorem kind_ok {xs : List D} (h : kindOk xs = true) : sortOk xs = true := by
  unfold kindOk at h
  rw [Bool.or_eq_true, Bool.or_eq_true] at h
  unfold sortOk
  have fin : xs.all (plainN 58) = true → (∀ a ∈ xs, ∀ b ∈ xs, alike (py a) (py b) = true) → (xs.all neTup || xs.all noTup) = true → (xs.all (plainN 58) && xs.all (fun a => xs.all fun b => alike (py a) (py b)) && (xs.all neTup || xs.all noTup)) = true := fun h1 h2 h3 => by
    rw [h1, h3, Bool.and_true, Bool.true_and, List.all_eq_true]
    exact fun a ha => List.all_eq_true.mpr (h2 a ha)
  rcases h with (h | h) | h
  · rw [List.all_eq_true] at h
    refine fin (List.all_eq_true.mpr fun d hd => isI_pl (h d hd)) (fun a ha b hb => ?_) (Bool.or_eq_true_iff.mpr (.inr (List.all_eq_true.mpr fun d hd => ?_)))
    · have h1 := h a ha; have h2 := h b hb
      cases a <;> simp [isI] at h1
      cases b <;> simp [isI] at h2
      simp [py, alike]
    · have h1 := h d hd
      cases d <;> simp [isI] at h1
      rfl
  · rw [List.all_eq_true] at h
    refine fin (List.all_eq_true.mpr fun d hd => ?_) (fun a ha b hb => ?_) (Bool.or_eq_true_iff.mpr (.inr (List.all_eq_true.mpr fun d hd => ?_)))
    · have h1 := h d hd
      cases d <;> simp only [isS] at h1 <;> first | cases h1 | (show PySem.PyData.strOk _ = true; exact strOk_of h1)
    · have h1 := h a ha; have h2 := h b hb
      cases a <;> simp [isS] at h1
      cases b <;> simp [isS] at h2
      simp [py, alike]
    · have h1 := h d hd
      cases d <;> simp [isS] at h1
      rfl
  · rw [List.all_eq_true] at h
    have inv : ∀ d, isT d = true → ∃ y ys, d = .tup (y :: ys) ∧ (y :: ys).all isI = true := fun d hd => by
      unfold isT at hd
      split at hd
      · rename_i y ys; exact ⟨y, ys, rfl, by rw [List.all_cons]; exact hd⟩
      · cases hd
    refine fin (List.all_eq_true.mpr fun d hd => ?_) (fun a ha b hb => ?_) (Bool.or_eq_true_iff.mpr (.inl (List.all_eq_true.mpr fun d hd => ?_)))
    · obtain ⟨y, ys, rfl, q⟩ := inv d (h d hd)
      rw [List.all_eq_true] at q
      exact List.all_eq_true.mpr fun e he => isI_pl (q e he)
    · obtain ⟨y, ys, rfl, q⟩ := inv a (h a ha)
      obtain ⟨y', ys', rfl, q'⟩ := inv b (h b hb)
      simp only [py, alike]
      exact alikeI q q'
    · obtain ⟨y, ys, rfl, q⟩ := inv d (h d hd)
      rfl
def fSorted : List D → Option (D × Bool)
  | [.lst xs] => if Nat.blt xs.length 2 then some (.lst xs, true) else if kindOk xs || sortOk xs then some (.lst (srtF leF xs), true) else none
  | ds => dSorted ds
theorem fSorted_ok {ds : List D} {r : D × Bool} (h : fSorted ds = some r) : dSorted ds = some r := by
  unfold fSorted at h
  split at h
  · rename_i xs
    unfold dSorted
    simp only
    rw [nblt] at h
    by_cases hl : xs.length < 2
    · rw [if_pos hl]; rwa [if_pos (decide_eq_true hl)] at h
    · rw [if_neg hl]
      rw [if_neg (by simp [hl])] at h
      split at h
      · rename_i hk
        rw [Bool.or_eq_true] at hk
        rw [if_pos (hk.elim kind_ok id)]
        rw [← h, leF_eq, srtF_ok leD_total]
      · cases h
  · exact h
section
variable {g : Gc} {X : Cx}
theorem blt_wk {id : String} {f f' : List D → Option (D × Bool)} (h : ∃ r, CallR X (.builtin id) r ∧ BltOk g f r) (w : ∀ {d b}, f' d = some b → f d = some b) : ∃ r, CallR X (.builtin id) r ∧ BltOk g f' r := by
  obtain ⟨r, h1, h2⟩ := h
  exact ⟨r, h1, fun Q a b c e q => h2 Q a b c (w e) q⟩
theorem blt_fSorted (hX : Of X g) (hu : X.A.units + 64 < cLine) : ∃ r, CallR X (.builtin "sorted") r ∧ BltOk g fSorted r := blt_wk (blt_sorted (g := g) hX hu) fSorted_ok
end
/-! ### texts joined -/
def fAdd : D → D → Option (D × Bool)
  | .str x, .str y => if x.cps.toList.length + y.cps.toList.length ≤ lim then some (.str ⟨Array.mk (x.cps.toList ++ y.cps.toList)⟩, false) else none
  | d, e => dAdd d e
theorem fAdd_ok {d e : D} {r : D × Bool} (h : fAdd d e = some r) : dAdd d e = some r := by
  unfold fAdd at h
  split at h
  · rename_i x y
    unfold dAdd
    simp only
    have e1 : x ++ y = ⟨Array.mk (x.cps.toList ++ y.cps.toList)⟩ := by
      show Str.append x y = _
      unfold Str.append
      congr 1
      apply Array.toList_inj.mp
      simp
    split at h
    · rename_i hl
      rw [if_pos (by exact hl), e1]; exact h
    · cases h
  · exact h
section
variable {g : Gc} {X : Cx}
theorem bin_wk {f f' : D → D → Option (D × Bool)} {op : Operator} (h : ∃ r, OpR X (binaryOp op) r ∧ BinOk g f r) (w : ∀ {d e b}, f' d e = some b → f d e = some b) : ∃ r, OpR X (binaryOp op) r ∧ BinOk g f' r := by
  obtain ⟨r, h1, h2⟩ := h
  exact ⟨r, h1, fun Q a b c d e q => h2 Q a b c d (w e) q⟩
theorem bin_fAdd (hX : Of X g) : ∃ r, OpR X (binaryOp .Add) r ∧ BinOk g fAdd r := bin_wk (bin_add (g := g) hX) fAdd_ok
end
end Tw

/-! what draws: a run over a tape of the draws stands for the runs from every state that draws so -/
namespace Tw
open PySem PySem.Spec PyProof.Rows L2
abbrev tK : Nat := 1048576
/-- the state draws what the tape says -/
inductive Mt : Int → Int → Prop
  | nil (z : Int) : Mt 0 z
  | cons {t : Nat} {z : Int} {m : Nat} (h0 : 0 < m) (h1 : m < tK) (h : Mt (t : Int) (z.fdiv m)) : Mt ((((z.fmod m).toNat + tK * (m + tK * t) : Nat)) : Int) z
/-- _law_take over a tape -/
def tTake : List D → Int → ER
  | [.cell, .int (.ofNat m)], .ofNat t => bif Nat.beq (Nat.mod (Nat.div t tK) tK) m && Nat.blt 0 m then some (.int (.ofNat (Nat.mod t tK)), false, .ofNat (Nat.div (Nat.div t tK) tK)) else none
  | _, _ => none
def rTake : List D → Int → ER
  | [.cell, .int m], z => if 0 < m then some (.int (z.fmod m), false, z.fdiv m) else none
  | _, _ => none
def DrE (m m' : EM) : Prop := ∀ a b w z d fr w', Le a b → Mt w z → m a w = some (d, fr, w') → ∃ z', m' b z = some (d, fr, z') ∧ Mt w' z'
def DrO (m m' : OM) : Prop := ∀ a b w z d w', Le a b → Mt w z → m a w = some (d, w') → ∃ z', m' b z = some (d, z') ∧ Mt w' z'
def DrT (m m' : TM) : Prop := ∀ a b w z d w', Le a b → Mt w z → m a w = some (d, w') → ∃ z', m' b z = some (d, z') ∧ Mt w' z'
def DrA (m m' : AM) : Prop := ∀ a b w z d w', Le a b → Mt w z → m a w = some (d, w') → ∃ z', m' b z = some (d, z') ∧ Mt w' z'
def DrI (m m' : IM) : Prop := ∀ a b w z d w', Le a b → Mt w z → m a w = some (d, w') → ∃ z', m' b z = some (d, z') ∧ Mt w' z'
def DrF (G G' : List D → Int → ER) : Prop := ∀ ds w z d fr w', Mt w z → G ds w = some (d, fr, w') → ∃ z', G' ds z = some (d, fr, z') ∧ Mt w' z'
def DrR (r s : RS) : Prop := match r with
  | .nx a w' => ∃ b z', s = .nx b z' ∧ Le a b ∧ Mt w' z'
  | .bk a w' => ∃ b z', s = .bk b z' ∧ Le a b ∧ Mt w' z'
  | .ct a w' => ∃ b z', s = .ct b z' ∧ Le a b ∧ Mt w' z'
  | .rt d fr a w' => ∃ b z', s = .rt d fr b z' ∧ Le a b ∧ Mt w' z'
  | .bad => True
def DrS (m m' : SM) : Prop := ∀ a b w z, Le a b → Mt w z → DrR (m a w) (m' b z)
theorem PuE.dr {m : EM} (h : PuE m) : DrE m m := fun a b w z d fr w' l t e => by obtain ⟨rfl, k⟩ := h a b w z d fr w' l e; exact ⟨z, k, t⟩
theorem PuO.dr {m : OM} (h : PuO m) : DrO m m := fun a b w z d w' l t e => by obtain ⟨rfl, k⟩ := h a b w z d w' l e; exact ⟨z, k, t⟩
theorem PuT.dr {m : TM} (h : PuT m) : DrT m m := fun a b w z d w' l t e => by obtain ⟨rfl, k⟩ := h a b w z d w' l e; exact ⟨z, k, t⟩
theorem PuA.dr {m : AM} (h : PuA m) : DrA m m := fun a b w z d w' l t e => by obtain ⟨rfl, k⟩ := h a b w z d w' l e; exact ⟨z, k, t⟩
theorem PuI.dr {m : IM} (h : PuI m) : DrI m m := fun a b w z d w' l t e => by obtain ⟨rfl, k⟩ := h a b w z d w' l e; exact ⟨z, k, t⟩
theorem PuF.dr {G : List D → Int → ER} (h : PuF G) : DrF G G := fun ds w z d fr w' t e => by obtain ⟨rfl, k⟩ := h ds w z d fr w' e; exact ⟨z, k, t⟩
theorem PuS.dr {m : SM} (h : PuS m) : DrS m m := fun a b w z l t => by
  have k := h a b w z l
  generalize m a w = r at k
  cases r with
  | nx a1 w1 => obtain ⟨rfl, b1, e, l1⟩ := k; exact ⟨b1, z, e, l1, t⟩
  | bk a1 w1 => obtain ⟨rfl, b1, e, l1⟩ := k; exact ⟨b1, z, e, l1, t⟩
  | ct a1 w1 => obtain ⟨rfl, b1, e, l1⟩ := k; exact ⟨b1, z, e, l1, t⟩
  | rt d fr a1 w1 => obtain ⟨rfl, b1, e, l1⟩ := k; exact ⟨b1, z, e, l1, t⟩
  | bad => trivial
theorem dr_take : DrF tTake rTake := fun ds w z d fr w' t e => by
  unfold tTake at e
  split at e
  · rename_i m t0
    cases q : (Nat.beq (Nat.mod (Nat.div t0 tK) tK) m && Nat.blt 0 m) with
    | false => rw [q] at e; cases e
    | true =>
      rw [q] at e
      rw [Bool.and_eq_true, nbeq, nblt, decide_eq_true_iff, decide_eq_true_iff] at q
      obtain ⟨q1, q2⟩ := q
      simp only [cond_true, Option.some.injEq, Prod.mk.injEq] at e
      obtain ⟨rfl, rfl, rfl⟩ := e
      generalize hw : (Int.ofNat t0) = w0 at t
      cases t with
      | nil =>
        have : t0 = 0 := by simpa using hw
        subst this
        have q1' : (0 / tK) % tK = m := q1
        rw [Nat.zero_div, Nat.zero_mod] at q1'
        omega
      | cons h0 h1 h =>
        rename_i t1 m1
        have hw' : t0 = (z.fmod m1).toNat + tK * (m1 + tK * t1) := by exact Int.ofNat.inj hw
        have hr : (z.fmod m1).toNat < m1 := by
          have a1 : 0 ≤ z.fmod m1 := Int.fmod_nonneg_of_pos z (by omega)
          have a2 : z.fmod m1 < m1 := Int.fmod_lt_of_pos z (by omega)
          omega
        have hr0 : 0 ≤ z.fmod m1 := Int.fmod_nonneg_of_pos z (by omega)
        have e1 : t0 % tK = (z.fmod m1).toNat := by
          rw [hw', Nat.add_mul_mod_self_left, Nat.mod_eq_of_lt (by omega)]
        have e2 : t0 / tK = m1 + tK * t1 := by
          rw [hw', Nat.add_mul_div_left _ _ (by decide), Nat.div_eq_of_lt (by omega), Nat.zero_add]
        have e3 : (t0 / tK) % tK = m1 := by
          rw [e2, Nat.add_mul_mod_self_left, Nat.mod_eq_of_lt h1]
        have e4 : t0 / tK / tK = t1 := by
          rw [e2, Nat.add_mul_div_left _ _ (by decide), Nat.div_eq_of_lt h1, Nat.zero_add]
        have em : m = m1 := q1.symm.trans e3
        subst em
        refine ⟨z.fdiv m, ?_, ?_⟩
        · show (if 0 < Int.ofNat m then _ else _) = _
          rw [if_pos (by rw [Int.ofNat_eq_natCast]; omega)]
          have : (Int.ofNat (Nat.mod t0 tK)) = z.fmod (Int.ofNat m) := by
            show ((t0 % tK : Nat) : Int) = z.fmod (m : Int)
            rw [e1]; omega
          rw [this]; rfl
        · show Mt ((t0 / tK / tK : Nat) : Int) _
          rw [e4]; exact h
  · cases e
/-! ### expressions -/
theorem dr_oe {m m' : EM} (h : DrE m m') : DrO (oE m) (oE m') := fun a b w z d w' l t e => by
  obtain ⟨⟨d1, f1, w1⟩, q, e1⟩ := omap e
  obtain ⟨z1, k, t1⟩ := h _ b _ z _ _ _ l t q
  cases e1
  exact ⟨z1, by unfold oE; rw [k]; rfl, t1⟩
theorem dr_bin {f : D → D → Option (D × Bool)} {m n m' n' : OM} (h1 : DrO m m') (h2 : DrO n n') : DrE (mBin f m n) (mBin f m' n') := fun a b w z d fr w' l t e => by
  obtain ⟨⟨d1, w1⟩, q1, e1⟩ := obind e
  obtain ⟨z1, k1, t1⟩ := h1 _ b _ z _ _ l t q1
  obtain ⟨⟨d2, w2⟩, q2, e2⟩ := obind e1
  obtain ⟨z2, k2, t2⟩ := h2 _ b _ z1 _ _ l t1 q2
  obtain ⟨r, q3, e3⟩ := omap e2
  cases e3
  exact ⟨z2, by simp only at q3; simp [mBin, k1, k2, q3], t2⟩
theorem dr_un {f : D → Option (D × Bool)} {m m' : OM} (h1 : DrO m m') : DrE (mUn f m) (mUn f m') := fun a b w z d fr w' l t e => by
  obtain ⟨⟨d1, w1⟩, q1, e1⟩ := obind e
  obtain ⟨z1, k1, t1⟩ := h1 _ b _ z _ _ l t q1
  obtain ⟨r, q3, e3⟩ := omap e1
  cases e3
  exact ⟨z1, by simp only at q3; simp [mUn, k1, q3], t1⟩
theorem dr_cmp {f : D → D → Option Bool} {m n m' n' : OM} (h1 : DrO m m') (h2 : DrO n n') : DrT (cCmp f m n) (cCmp f m' n') := fun a b w z d w' l t e => by
  obtain ⟨⟨d1, w1⟩, q1, e1⟩ := obind e
  obtain ⟨z1, k1, t1⟩ := h1 _ b _ z _ _ l t q1
  obtain ⟨⟨d2, w2⟩, q2, e2⟩ := obind e1
  obtain ⟨z2, k2, t2⟩ := h2 _ b _ z1 _ _ l t1 q2
  obtain ⟨r, q3, e3⟩ := omap e2
  cases e3
  exact ⟨z2, by simp only at q3; simp [cCmp, k1, k2, q3], t2⟩
theorem dr_B {m m' : TM} (h : DrT m m') : DrE (eB m) (eB m') := fun a b w z d fr w' l t e => by
  obtain ⟨⟨d1, w1⟩, q, e1⟩ := omap e
  obtain ⟨z1, k, t1⟩ := h _ b _ z _ _ l t q
  cases e1
  exact ⟨z1, by simp [eB, k], t1⟩
theorem dr_ce {m m' : EM} (h : DrE m m') : DrT (cE m) (cE m') := fun a b w z d w' l t e => by
  obtain ⟨⟨d1, f1, w1⟩, q, e1⟩ := obind e
  obtain ⟨z1, k, t1⟩ := h _ b _ z _ _ _ l t q
  cases d1 with
  | bl c =>
    simp only [Option.some.injEq, Prod.mk.injEq] at e1
    obtain ⟨rfl, rfl⟩ := e1
    exact ⟨z1, by simp [cE, k], t1⟩
  | _ => cases e1
theorem dr_cand {m n m' n' : TM} (h1 : DrT m m') (h2 : DrT n n') : DrT (cAnd m n) (cAnd m' n') := fun a b w z d w' l t e => by
  obtain ⟨⟨d1, w1⟩, q1, e1⟩ := obind e
  obtain ⟨z1, k1, t1⟩ := h1 _ b _ z _ _ l t q1
  cases d1 with
  | true =>
    obtain ⟨z2, k2, t2⟩ := h2 _ b _ z1 _ _ l t1 (show n a w1 = some (d, w') from e1)
    exact ⟨z2, by simp [cAnd, k1, k2], t2⟩
  | false =>
    cases e1
    exact ⟨z1, by simp [cAnd, k1], t1⟩
theorem dr_cor {m n m' n' : TM} (h1 : DrT m m') (h2 : DrT n n') : DrT (cOr m n) (cOr m' n') := fun a b w z d w' l t e => by
  obtain ⟨⟨d1, w1⟩, q1, e1⟩ := obind e
  obtain ⟨z1, k1, t1⟩ := h1 _ b _ z _ _ l t q1
  cases d1 with
  | false =>
    obtain ⟨z2, k2, t2⟩ := h2 _ b _ z1 _ _ l t1 (show n a w1 = some (d, w') from e1)
    exact ⟨z2, by simp [cOr, k1, k2], t2⟩
  | true =>
    cases e1
    exact ⟨z1, by simp [cOr, k1], t1⟩
theorem dr_cnot {m m' : TM} (h : DrT m m') : DrT (cNot m) (cNot m') := fun a b w z d w' l t e => by
  obtain ⟨⟨d1, w1⟩, q, e1⟩ := omap e
  obtain ⟨z1, k, t1⟩ := h _ b _ z _ _ l t q
  cases e1
  exact ⟨z1, by simp [cNot, k], t1⟩
theorem dr_if {c c' : TM} {m n m' n' : EM} (h : DrT c c') (h1 : DrE m m') (h2 : DrE n n') : DrE (eIf c m n) (eIf c' m' n') := fun a b w z d fr w' l t e => by
  obtain ⟨⟨d1, w1⟩, q1, e1⟩ := obind e
  obtain ⟨z1, k1, t1⟩ := h _ b _ z _ _ l t q1
  cases d1 with
  | false =>
    obtain ⟨z2, k2, t2⟩ := h2 _ b _ z1 _ _ _ l t1 (show n a w1 = some (d, fr, w') from e1)
    exact ⟨z2, by simp [eIf, k1, k2], t2⟩
  | true =>
    obtain ⟨z2, k2, t2⟩ := h1 _ b _ z1 _ _ _ l t1 (show m a w1 = some (d, fr, w') from e1)
    exact ⟨z2, by simp [eIf, k1, k2], t2⟩
theorem dr_acons {m m' : EM} {n n' : AM} (h1 : DrE m m') (h2 : DrA n n') : DrA (aCons m n) (aCons m' n') := fun a b w z d w' l t e => by
  obtain ⟨⟨d1, f1, w1⟩, q1, e1⟩ := obind e
  obtain ⟨z1, k1, t1⟩ := h1 _ b _ z _ _ _ l t q1
  obtain ⟨⟨d2, w2⟩, q2, e2⟩ := omap e1
  obtain ⟨z2, k2, t2⟩ := h2 _ b _ z1 _ _ l t1 q2
  cases e2
  exact ⟨z2, by simp [aCons, k1, k2], t2⟩
theorem dr_aconsO {m m' : OM} {n n' : AM} (h1 : DrO m m') (h2 : DrA n n') : DrA (aConsO m n) (aConsO m' n') := fun a b w z d w' l t e => by
  obtain ⟨⟨d1, w1⟩, q1, e1⟩ := obind e
  obtain ⟨z1, k1, t1⟩ := h1 _ b _ z _ _ l t q1
  obtain ⟨⟨d2, w2⟩, q2, e2⟩ := omap e1
  obtain ⟨z2, k2, t2⟩ := h2 _ b _ z1 _ _ l t1 q2
  cases e2
  exact ⟨z2, by simp [aConsO, k1, k2], t2⟩
theorem dr_tup {m m' : AM} (h : DrA m m') : DrE (eTup m) (eTup m') := fun a b w z d fr w' l t e => by
  obtain ⟨⟨d1, w1⟩, q, e1⟩ := obind e
  obtain ⟨z1, k, t1⟩ := h _ b _ z _ _ l t q
  by_cases hl : d1.length ≤ lim
  · rw [if_pos hl] at e1
    cases e1
    exact ⟨z1, by simp only [eTup, k, Option.bind_some]; rw [if_pos hl], t1⟩
  · rw [if_neg hl] at e1; cases e1
theorem dr_lst {m m' : AM} (h : DrA m m') : DrE (eLst m) (eLst m') := fun a b w z d fr w' l t e => by
  obtain ⟨⟨d1, w1⟩, q, e1⟩ := obind e
  obtain ⟨z1, k, t1⟩ := h _ b _ z _ _ l t q
  by_cases hl : d1.length ≤ lim
  · rw [if_pos hl] at e1
    cases e1
    exact ⟨z1, by simp only [eLst, k, Option.bind_some]; rw [if_pos hl], t1⟩
  · rw [if_neg hl] at e1; cases e1
theorem dr_call {G G' : List D → Int → ER} {m m' : AM} (hG : DrF G G') (h : DrA m m') : DrE (eCall G m) (eCall G' m') := fun a b w z d fr w' l t e => by
  obtain ⟨⟨d1, w1⟩, q, e1⟩ := obind e
  obtain ⟨z1, k, t1⟩ := h _ b _ z _ _ l t q
  obtain ⟨z2, k2, t2⟩ := hG _ _ z1 _ _ _ t1 e1
  exact ⟨z2, by simp only at k2; simp [eCall, k, k2], t2⟩
theorem dr_blt {f : List D → Option (D × Bool)} {m m' : AM} (h : DrA m m') : DrE (eBlt f m) (eBlt f m') := fun a b w z d fr w' l t e => by
  obtain ⟨⟨d1, w1⟩, q, e1⟩ := obind e
  obtain ⟨z1, k, t1⟩ := h _ b _ z _ _ l t q
  obtain ⟨r, q3, e3⟩ := omap e1
  cases e3
  exact ⟨z1, by simp only at q3; simp [eBlt, k, q3], t1⟩
theorem dr_any {m m' : OM} (h : DrO m m') : DrI (iAny m) (iAny m') := fun a b w z d w' l t e => by
  obtain ⟨⟨d1, w1⟩, q, e1⟩ := obind e
  obtain ⟨z1, k, t1⟩ := h _ b _ z _ _ l t q
  cases d1 <;> first | (cases e1; exact ⟨z1, by simp [iAny, k], t1⟩) | cases e1
theorem dr_rg1 {m m' : AM} (h : DrA m m') : DrI (iRg1 m) (iRg1 m') := fun a b w z d w' l t e => by
  obtain ⟨⟨d1, w1⟩, q, e1⟩ := obind e
  obtain ⟨z1, k, t1⟩ := h _ b _ z _ _ l t q
  simp only at e1
  split at e1
  · rename_i j
    split at e1
    · rename_i q2
      cases e1
      exact ⟨z1, by unfold iRg1; rw [k]; simp [q2], t1⟩
    · cases e1
  · cases e1
theorem dr_compL {b : BM} {c c' : TM} {m m' : EM} (hb : PuB b) (hc : DrT c c') (hm : DrE m m') {x y : Env'} (l : Le x y) : ∀ (ds : List D) (w z : Int) (r : List D) (w' : Int), Mt w z → compL b c m x ds w = some (r, w') → ∃ z', compL b c' m' y ds z = some (r, z') ∧ Mt w' z'
  | [], w, z, r, w', t, e => by
    simp only [compL, Option.some.injEq, Prod.mk.injEq] at e
    obtain ⟨rfl, rfl⟩ := e
    exact ⟨z, rfl, t⟩
  | d :: ds, w, z, r, w', t, e => by
    simp only [compL] at e
    obtain ⟨x1, q1, e1⟩ := obind e
    obtain ⟨y1, k1, l1⟩ := hb _ _ y _ l q1
    obtain ⟨⟨v, w1⟩, q2, e2⟩ := obind e1
    obtain ⟨z2, k2, t2⟩ := hc _ y1 _ z _ _ l1 t q2
    cases v with
    | true =>
      rw [if_pos rfl] at e2
      obtain ⟨⟨v, f, w2⟩, q3, e3⟩ := obind e2
      obtain ⟨z3, k3, t3⟩ := hm _ y1 _ z2 _ _ _ l1 t2 q3
      obtain ⟨⟨r1, w3⟩, q4, e4⟩ := omap e3
      obtain ⟨z4, k4, t4⟩ := dr_compL hb hc hm l ds _ z3 _ _ t3 q4
      cases e4
      exact ⟨z4, by simp [compL, k1, k2, k3, k4], t4⟩
    | false =>
      rw [if_neg (by simp)] at e2
      obtain ⟨z4, k4, t4⟩ := dr_compL hb hc hm l ds _ z2 _ _ t2 e2
      exact ⟨z4, by simp [compL, k1, k2, k4], t4⟩
theorem dr_comp {vs : List Nat} {it it' : IM} {b : BM} {c c' : TM} {m m' : EM} (hi : DrI it it') (hb : PuB b) (hc : DrT c c') (hm : DrE m m') : DrE (eComp vs it b c m) (eComp vs it' b c' m') := fun x y w z d fr w' l t e => by
  obtain ⟨⟨ds, w1⟩, q1, e1⟩ := obind e
  obtain ⟨z1, k1, t1⟩ := hi _ y _ z _ _ l t q1
  obtain ⟨⟨r, w2⟩, q2, e2⟩ := omap e1
  obtain ⟨z2, k2, t2⟩ := dr_compL hb hc hm (l.wipe vs) ds _ z1 _ _ t1 q2
  cases e2
  exact ⟨z2, by simp [eComp, k1, k2], t2⟩
/-! ### statements -/
theorem drs_seq {m n m' n' : SM} (h1 : DrS m m') (h2 : DrS n n') : DrS (sSeq m n) (sSeq m' n') := fun a b w z l t => by
  have k := h1 a b w z l t
  unfold sSeq
  generalize m a w = r at k
  cases r with
  | nx a1 w1 =>
    obtain ⟨b1, z1, e, l1, t1⟩ := k
    rw [e]
    exact h2 a1 b1 w1 z1 l1 t1
  | bk a1 w1 => obtain ⟨b1, z1, e, l1, t1⟩ := k; rw [e]; exact ⟨b1, z1, rfl, l1, t1⟩
  | ct a1 w1 => obtain ⟨b1, z1, e, l1, t1⟩ := k; rw [e]; exact ⟨b1, z1, rfl, l1, t1⟩
  | rt d fr a1 w1 => obtain ⟨b1, z1, e, l1, t1⟩ := k; rw [e]; exact ⟨b1, z1, rfl, l1, t1⟩
  | bad => trivial
theorem drs_set {i : Nat} {m m' : EM} (h : DrE m m') : DrS (sSet i m) (sSet i m') := fun a b w z l t => by
  unfold sSet
  cases q : m a w with
  | none => trivial
  | some r =>
    obtain ⟨d, fr, w1⟩ := r
    obtain ⟨z1, k, t1⟩ := h a b w z d fr w1 l t q
    rw [k]
    exact ⟨_, z1, rfl, l.set i _, t1⟩
theorem drs_setO {i : Nat} {m m' : EM} (h : DrE m m') : DrS (sSetO i m) (sSetO i m') := fun a b w z l t => by
  unfold sSetO
  cases q : m a w with
  | none => trivial
  | some r =>
    obtain ⟨d, fr, w1⟩ := r
    obtain ⟨z1, k, t1⟩ := h a b w z d fr w1 l t q
    rw [k]
    cases fr <;> exact ⟨_, z1, rfl, l.set i _, t1⟩
theorem drs_frz {i : Nat} {m m' : SM} (h : DrS m m') : DrS (sFrz i m) (sFrz i m') := fun a b w z l t => by
  have go : ∀ (q : a[i]? = none ∨ a[i]? = some Slot.un), DrR (m a w) (match b[i]? with | some (.ow d) => m' (b.set i (.sh d)) z | _ => m' b z) := fun q => by
    split
    · exact h a _ w z (l.setR q) t
    · exact h a b w z l t
  unfold sFrz
  cases q : a[i]? with
  | none => exact go (.inl q)
  | some s =>
    cases s with
    | un => exact go (.inr q)
    | sh d => rw [l.sh q]; exact h a b w z l t
    | ow d => rw [l.ow q]; exact h _ _ w z (l.set i _) t
theorem drs_ret {m m' : EM} (h : DrE m m') : DrS (sRet m) (sRet m') := fun a b w z l t => by
  unfold sRet
  cases q : m a w with
  | none => trivial
  | some r =>
    obtain ⟨d, fr, w1⟩ := r
    obtain ⟨z1, k, t1⟩ := h a b w z d fr w1 l t q
    rw [k]
    exact ⟨_, z1, rfl, l, t1⟩
theorem drs_if {c c' : TM} {m n m' n' : SM} (h : DrT c c') (h1 : DrS m m') (h2 : DrS n n') : DrS (sIf c m n) (sIf c' m' n') := fun a b w z l t => by
  unfold sIf
  cases q : c a w with
  | none => trivial
  | some r =>
    obtain ⟨d, w1⟩ := r
    obtain ⟨z1, k, t1⟩ := h a b w z d w1 l t q
    rw [k]
    cases d with
    | true => exact h1 a b w1 z1 l t1
    | false => exact h2 a b w1 z1 l t1
theorem drs_expr {m m' : EM} (h : DrE m m') : DrS (sExpr m) (sExpr m') := fun a b w z l t => by
  unfold sExpr
  cases q : m a w with
  | none => trivial
  | some r =>
    obtain ⟨d, fr, w1⟩ := r
    obtain ⟨z1, k, t1⟩ := h a b w z d fr w1 l t q
    rw [k]
    exact ⟨_, z1, rfl, l, t1⟩
theorem drs_aug {i : Nat} {f : D → D → Option (D × Bool)} {m m' : OM} (h : DrO m m') : DrS (sAug i f m) (sAug i f m') := fun a b w z l t => by
  unfold sAug
  cases q : a[i]? with
  | none => trivial
  | some s =>
    cases s with
    | un => trivial
    | ow d => trivial
    | sh d =>
      rw [l.sh q]
      simp only
      cases q2 : m a w with
      | none => trivial
      | some r =>
        obtain ⟨e, w1⟩ := r
        obtain ⟨z1, k, t1⟩ := h a b w z e w1 l t q2
        rw [k]
        simp only
        cases q3 : f d e with
        | none => trivial
        | some r =>
          obtain ⟨v, fr⟩ := r
          cases fr with
          | true => trivial
          | false => exact ⟨_, z1, rfl, l.set i _, t1⟩
theorem drs_asg {m m' : EM} {tg : BM} (h : DrE m m') (h2 : PuB tg) : DrS (sAsg m tg) (sAsg m' tg) := fun a b w z l t => by
  unfold sAsg
  cases q : m a w with
  | none => trivial
  | some r =>
    obtain ⟨d, fr, w1⟩ := r
    obtain ⟨z1, k, t1⟩ := h a b w z d fr w1 l t q
    rw [k]
    simp only
    cases q2 : tg d a with
    | none => trivial
    | some a1 =>
      obtain ⟨b1, k1, l1⟩ := h2 _ _ b _ l q2
      rw [k1]
      exact ⟨_, z1, rfl, l1, t1⟩
theorem drs_par {i j : Nat} {m m' : AM} (h : DrA m m') : DrS (sPar i j m) (sPar i j m') := fun a b w z l t => by
  unfold sPar
  cases q : m a w with
  | none => trivial
  | some r =>
    obtain ⟨ds, w1⟩ := r
    obtain ⟨z1, k, t1⟩ := h a b w z ds w1 l t q
    rw [k]
    match ds with
    | [] => trivial
    | [_] => trivial
    | [d, e] => exact ⟨_, z1, rfl, (l.set i _).set j _, t1⟩
    | _ :: _ :: _ :: _ => trivial
theorem drs_parO {i j : Nat} {m n m' n' : EM} (h1 : DrE m m') (h2 : DrE n n') : DrS (sParO i j m n) (sParO i j m' n') := fun a b w z l t => by
  unfold sParO
  cases q : m a w with
  | none => trivial
  | some r =>
    obtain ⟨d, fr, w1⟩ := r
    obtain ⟨z1, k, t1⟩ := h1 a b w z d fr w1 l t q
    rw [k]
    simp only
    cases q2 : n a w1 with
    | none => trivial
    | some r =>
      obtain ⟨e, fr2, w2⟩ := r
      obtain ⟨z2, k2, t2⟩ := h2 a b _ z1 e fr2 w2 l t1 q2
      rw [k2]
      exact ⟨_, z2, rfl, (l.set i _).set j _, t2⟩
theorem dr_forL {tg : BM} {m m' : SM} (h1 : PuB tg) (h2 : DrS m m') : ∀ (ds : List D) (a b : Env') (w z : Int), Le a b → Mt w z → DrR (forL tg m ds a w) (forL tg m' ds b z)
  | [], a, b, w, z, l, t => ⟨b, z, rfl, l, t⟩
  | d :: ds, a, b, w, z, l, t => by
    unfold forL
    cases q : tg d a with
    | none => trivial
    | some a1 =>
      obtain ⟨b1, k1, l1⟩ := h1 _ _ b _ l q
      rw [k1]
      simp only
      have k := h2 a1 b1 w z l1 t
      generalize m a1 w = r at k
      cases r with
      | nx a2 w1 => obtain ⟨b2, z1, e, l2, t2⟩ := k; rw [e]; exact dr_forL h1 h2 ds a2 b2 w1 z1 l2 t2
      | ct a2 w1 => obtain ⟨b2, z1, e, l2, t2⟩ := k; rw [e]; exact dr_forL h1 h2 ds a2 b2 w1 z1 l2 t2
      | bk a2 w1 => obtain ⟨b2, z1, e, l2, t2⟩ := k; rw [e]; exact ⟨b2, z1, rfl, l2, t2⟩
      | rt d fr a2 w1 => obtain ⟨b2, z1, e, l2, t2⟩ := k; rw [e]; exact ⟨b2, z1, rfl, l2, t2⟩
      | bad => trivial
theorem drs_for {it it' : IM} {tg : BM} {m m' : SM} (hi : DrI it it') (h1 : PuB tg) (h2 : DrS m m') : DrS (sFor it tg m) (sFor it' tg m') := fun a b w z l t => by
  unfold sFor
  cases q : it a w with
  | none => trivial
  | some r =>
    obtain ⟨ds, w1⟩ := r
    obtain ⟨z1, k, t1⟩ := hi a b w z ds w1 l t q
    rw [k]
    exact dr_forL h1 h2 ds a b w1 z1 l t1
theorem dr_while {c c' : TM} {m m' : SM} (h1 : DrT c c') (h2 : DrS m m') : ∀ n, DrS (whileN c m n) (whileN c' m' n)
  | 0 => fun a b w z l t => trivial
  | n + 1 => fun a b w z l t => by
    unfold whileN
    cases q : c a w with
    | none => trivial
    | some r =>
      obtain ⟨d, w1⟩ := r
      obtain ⟨z1, k, t1⟩ := h1 a b w z d w1 l t q
      rw [k]
      cases d with
      | false => exact ⟨b, z1, rfl, l, t1⟩
      | true =>
        simp only
        have k := h2 a b w1 z1 l t1
        generalize m a w1 = r at k
        cases r with
        | nx a2 w1 => obtain ⟨b2, z1, e, l2, t2⟩ := k; rw [e]; exact dr_while h1 h2 n a2 b2 w1 z1 l2 t2
        | ct a2 w1 => obtain ⟨b2, z1, e, l2, t2⟩ := k; rw [e]; exact dr_while h1 h2 n a2 b2 w1 z1 l2 t2
        | bk a2 w1 => obtain ⟨b2, z1, e, l2, t2⟩ := k; rw [e]; exact ⟨b2, z1, rfl, l2, t2⟩
        | rt d fr a2 w1 => obtain ⟨b2, z1, e, l2, t2⟩ := k; rw [e]; exact ⟨b2, z1, rfl, l2, t2⟩
        | bad => trivial
theorem drs_app {i : Nat} {m m' : EM} (h : DrE m m') : DrS (sApp i m) (sApp i m') := fun a b w z l t => by
  unfold sApp
  cases q : a[i]? with
  | none => trivial
  | some s =>
    cases s with
    | un => trivial
    | sh d => trivial
    | ow d =>
      rw [l.ow q]
      cases d with
      | lst xs =>
        simp only
        cases q2 : m a w with
        | none => trivial
        | some r =>
          obtain ⟨e, fr, w1⟩ := r
          obtain ⟨z1, k, t1⟩ := h a b w z e fr w1 l t q2
          rw [k]
          simp only
          by_cases hl : xs.length < lim
          · rw [if_pos hl, if_pos hl]; exact ⟨_, z1, rfl, l.set i _, t1⟩
          · rw [if_neg hl]; trivial
      | _ => trivial
theorem drf_run {np nl : Nat} {m m' : SM} (h : DrS m m') : DrF (runDef np nl m) (runDef np nl m') := fun ds w z d fr w' t e => by
  unfold runDef at e ⊢
  split at e
  · rename_i hl
    rw [if_pos hl]
    have k := h (ds.map .sh ++ List.replicate nl .un) _ w z (Le.refl _) t
    generalize m (ds.map .sh ++ List.replicate nl .un) w = r at k e
    cases r with
    | nx a2 w1 =>
      obtain ⟨b2, z1, q, l2, t2⟩ := k
      rw [q]
      simp only [Option.some.injEq, Prod.mk.injEq] at e
      obtain ⟨rfl, rfl, rfl⟩ := e
      exact ⟨z1, rfl, t2⟩
    | rt d fr a2 w1 =>
      obtain ⟨b2, z1, q, l2, t2⟩ := k
      rw [q]
      simp only [Option.some.injEq, Prod.mk.injEq] at e
      obtain ⟨rfl, rfl, rfl⟩ := e
      exact ⟨z1, rfl, t2⟩
    | _ => cases e
  · cases e
end Tw

/-! all the draws; the law from the runs over their tapes -/
namespace Tw
open PySem PySem.Spec PyProof.Rows L2
def Cov (T : List Nat) : Prop := ∀ z : Int, ∃ t ∈ T, Mt (t : Int) z
theorem cov_nil : Cov [0] := fun z => ⟨0, by simp, Mt.nil z⟩
/-- one draw of m, then what follows it -/
def ndM (m : Nat) : Nat := bif Nat.blt 0 m && Nat.blt m tK then m else 1
def nd (m : Nat) (f : Nat → List Nat) : List Nat := (List.range (ndM m)).flatMap fun r => (f r).map fun t => r + tK * (ndM m + tK * t)
theorem ndM_ok (m : Nat) : 0 < ndM m ∧ ndM m < tK := by
  unfold ndM
  cases q : (Nat.blt 0 m && Nat.blt m tK) with
  | false => exact ⟨Nat.one_pos, (by decide : 1 < tK)⟩
  | true =>
    rw [Bool.and_eq_true, nblt, nblt, decide_eq_true_iff, decide_eq_true_iff] at q
    exact q
theorem cov_nd {m : Nat} {f : Nat → List Nat} (h : ∀ r, Cov (f r)) : Cov (nd m f) := fun z => by
  obtain ⟨h0, h1⟩ := ndM_ok m
  unfold nd
  generalize ndM m = m at h0 h1
  have a1 : 0 ≤ z.fmod m := Int.fmod_nonneg_of_pos z (by omega)
  have a2 : z.fmod m < m := Int.fmod_lt_of_pos z (by omega)
  obtain ⟨t, ht, hm⟩ := h (z.fmod m).toNat (z.fdiv m)
  refine ⟨(z.fmod m).toNat + tK * (m + tK * t), ?_, Mt.cons h0 h1 hm⟩
  rw [List.mem_flatMap]
  exact ⟨(z.fmod m).toNat, by rw [List.mem_range]; omega, List.mem_map.mpr ⟨t, ht, rfl⟩⟩
/-- the run returns True -/
def yes : RS → Bool
  | .rt (.bl true) _ _ _ => true
  | _ => false
def env0 (nl : Nat) : Env' := .un :: .sh .cell :: List.replicate nl .un
def runs (nl : Nat) (m : SM) (T : List Nat) : Bool := T.all fun t => yes (m (env0 nl) (.ofNat t))
theorem holds_of {nl : Nat} {m m' : SM} (h : DrS m m') (T : List Nat) (hT : Cov T) (hk : runs nl m T = true) : Holds' nl m' := fun ns z => by
  obtain ⟨t, ht, hm⟩ := hT z
  have q := List.all_eq_true.mp hk t ht
  have l : Le (env0 nl) (.sh (.kst (ns.map D.int)) :: .sh .cell :: List.replicate nl .un) := by
    refine ⟨rfl, fun i s e => ?_⟩
    match i, e with
    | 0, e => cases e; exact .inl rfl
    | i + 1, e => exact .inr e
  have k := h _ _ _ z l hm
  unfold yes at q
  split at q
  · rename_i fr a w e
    have e' : m (env0 nl) (t : Int) = .rt (.bl true) fr a w := e
    rw [e'] at k
    obtain ⟨b, z', e2, _, _⟩ := k
    exact ⟨fr, b, z', e2⟩
  · cases q
end Tw

/-! enumerate, zip, reversed, range with a step, constants -/
namespace Tw
open PySem PySem.Spec PyProof.Rows L2
section
variable {g : Gc} {F F' H H' : Hp} {σ : L2.St} {env : Env'} {z : Int} {X : Cx}
/-- what a list or tuple is, frozen -/
theorem Rep.seq {v : V} {d : D} {ds : List D} (k : Rep g F v d) (h : d = .lst ds ∨ d = .kst ds) : ∃ a vs, v = .ref a ∧ SqL g.K F a vs ∧ vs.length ≤ sizeLine ∧ RepL g F vs ds := by
  rcases h with h | h
  · subst h; cases k with | lst c1 c2 c3 => exact ⟨_, _, rfl, .inl (.inl c1), c2, c3⟩
  · subst h; cases k with | kst c1 c2 c3 => exact ⟨_, _, rfl, c1, c2, c3⟩
theorem RepL.two {vs : List V} {d e : D} (k : RepL g F vs [d, e]) : ∃ v w, vs = [v, w] ∧ Rep g F v d ∧ Rep g F w e := by
  cases k with | cons a b => cases b with | cons c d => cases d; exact ⟨_, _, rfl, a, c⟩
theorem RepL.three {vs : List V} {d e f : D} (k : RepL g F vs [d, e, f]) : ∃ v w x, vs = [v, w, x] ∧ Rep g F v d ∧ Rep g F w e ∧ Rep g F x f := by
  cases k with | cons a b => cases b with | cons c d => cases d with | cons e f => cases f; exact ⟨_, _, _, rfl, a, c, e⟩
def enuD : Nat → List D → List D
  | _, [] => []
  | i, d :: ds => .tup [.int (.ofNat i), d] :: enuD (Nat.succ i) ds
theorem enuD_len : ∀ (i : Nat) (ds : List D), (enuD i ds).length = ds.length
  | _, [] => rfl
  | i, d :: ds => by simp [enuD, enuD_len]
theorem enuD_get : ∀ {j i : Nat} {ds : List D} {e : D}, (enuD j ds)[i]? = some e → ∃ d, ds[i]? = some d ∧ e = .tup [.int ((j + i : Nat) : Int), d]
  | j, i, [], e, h => by simp [enuD] at h
  | j, 0, d :: ds, e, h => by simp [enuD] at h; exact ⟨d, rfl, by rw [← h]; rfl⟩
  | j, i + 1, d :: ds, e, h => by
    simp only [enuD, List.getElem?_cons_succ] at h
    obtain ⟨d', h1, h2⟩ := enuD_get h
    exact ⟨d', by simpa using h1, by rw [h2, show (Nat.succ j + i : Nat) = j + (i + 1) from by omega]⟩
def iEnu (m : AM) : IM := fun env z => (m env z).bind fun p => match p.1 with
  | [.lst xs] => if xs.length ≤ lim then some (enuD 0 xs, p.2) else none
  | [.kst xs] => if xs.length ≤ lim then some (enuD 0 xs, p.2) else none
  | _ => none
theorem drv_new {J : It} {ds : List D} {kp : Bool} {F1 H1 : Hp} (hlen : ∀ (F H : Hp), Same F1 F → Same F H → (∀ i d, ds[i]? = some d → J.go i H ∧ ∀ x H2, J.yld i H x H2 → ∃ T vs es, x = .ref T ∧ H T = none ∧ H2 = upd H T (.tup vs) ∧ d = .tup es ∧ RepL g F1 vs es ∧ vs.length ≤ sizeLine) ∧ (∀ i, ds.length ≤ i → J.stop i H)) : Drv g kp J ds F1 H1 := by
  intro F H s1 s2 kk
  obtain ⟨h1, h2⟩ := hlen F H s1 s2
  refine ⟨fun i d e => ?_, h2⟩
  obtain ⟨g1, g2⟩ := h1 i d e
  refine ⟨g1, fun x H2 y => ?_⟩
  obtain ⟨T, vs, es, rfl, hT, rfl, rfl, r, hz⟩ := g2 x H2 y
  exact ⟨upd F T (.tup vs), fun z c => Step.newF s2 c hT, Step.tupVal s2 hT hz (r.same s1)⟩
theorem two63 : 2 ≤ sizeLine := by rw [lim_eq]; show 2 ≤ 16777216; omega
theorem ie_enu {e : Expr} {p pos tpos : Pos} {elts : List Expr} {kk : Nat} {m : AM} {kp : Bool} (hX : Of X g) (hm : g.mg "enumerate" = none) (ha : AE X g [e] m) (hg : Gl X "enumerate" := by rfl) (hs : starEach [e] X.env = [(false, eval e X.env)] := by rfl) :
    IE X g kp (.Tuple elts kk tpos) (.Call (.Name "enumerate" p) [e] [] pos) (iEnu m) :=
  PI.imp (pi_enum hg (by rw [hX.mg]; exact hm) ha hs) fun σ H R ⟨F, env, z, ds, z', sr, e, h⟩ => by
    obtain ⟨⟨ds0, z1⟩, q1, e⟩ := obind e
    have key : ∀ (xs : List D) (d0 : D), d0 = .lst xs ∨ d0 = .kst xs → ds0 = [d0] → (if xs.length ≤ lim then some (enuD 0 xs, z1) else none) = some (ds, z') → iEnum X.K (tAr g m) σ H R := fun xs d0 hd hd0 e9 => by
      subst hd0
      clear e
      split at e9
      · rename_i hl
        cases e9
        refine tAr.at sr q1 fun vs F1 H1 s1 k1 => ?_
        cases k1 with
        | cons k1 k2 =>
          cases k2
          obtain ⟨a, vs, rfl, hq, hz, r⟩ := k1.seq hd
          rw [hX.K]
          refine ⟨a, vs, rfl, SqL.same s1.sub hq, h _ F1 H1 s1 (by rw [enuD_len]; exact hl) (drv_new fun F2 H2 a1 a2 => ?_)⟩
          have hq2 : SqL g.K H2 a vs := SqL.same (a1.trans a2) hq
          refine ⟨fun i d e1 => ?_, fun i e1 => ⟨vs, hq2, by rw [r.length]; rw [enuD_len] at e1; exact e1⟩⟩
          obtain ⟨d', h1, h2⟩ := enuD_get e1
          obtain ⟨v, g1, g2⟩ := r.get h1
          refine ⟨⟨vs, v, hq2, g1⟩, fun x H3 ⟨T, y, e2, e3, e4, e5⟩ => ?_⟩
          have := e5 vs hq2
          rw [g1] at this
          cases this
          exact ⟨T, _, _, e2, e3, e4, h2, .cons (by rw [Nat.zero_add]; exact .int _) (.cons g2 .nil), two63⟩
      · cases e9
    match ds0, e with
    | [.lst xs], e => exact key xs _ (.inl rfl) rfl e
    | [.kst xs], e => exact key xs _ (.inr rfl) rfl e
theorem pu_enu {m : AM} (h : PuA m) : PuI (iEnu m) := fun a b w z d w' l e => by
  obtain ⟨⟨d1, w1⟩, q, e1⟩ := obind e
  obtain ⟨rfl, k⟩ := h _ b _ z _ _ l q
  simp only at e1
  split at e1
  · split at e1
    · rename_i hl; cases e1; exact ⟨rfl, by unfold iEnu; rw [k]; simp [hl]⟩
    · cases e1
  · split at e1
    · rename_i hl; cases e1; exact ⟨rfl, by unfold iEnu; rw [k]; simp [hl]⟩
    · cases e1
  · cases e1
/-! ### zip -/
def zipD : List D → List D → List D
  | d :: ds, e :: es => .tup [d, e] :: zipD ds es
  | _, _ => []
theorem zipD_get : ∀ {i : Nat} {ds es : List D} {x : D}, (zipD ds es)[i]? = some x → ∃ d e, ds[i]? = some d ∧ es[i]? = some e ∧ x = .tup [d, e]
  | i, [], es, x, h => by simp [zipD] at h
  | i, d :: ds, [], x, h => by simp [zipD] at h
  | 0, d :: ds, e :: es, x, h => by simp [zipD] at h; exact ⟨d, e, rfl, rfl, h.symm⟩
  | i + 1, d :: ds, e :: es, x, h => by
    simp only [zipD, List.getElem?_cons_succ] at h
    obtain ⟨a, b, h1, h2, h3⟩ := zipD_get h
    exact ⟨a, b, by simpa using h1, by simpa using h2, h3⟩
theorem zipD_len : ∀ ds es : List D, (zipD ds es).length = min ds.length es.length
  | [], es => by simp [zipD]
  | d :: ds, [] => by simp [zipD]
  | d :: ds, e :: es => by simp [zipD, zipD_len ds es]
def lstOf : D → Option (List D)
  | .lst xs => some xs
  | .kst xs => some xs
  | _ => none
theorem lstOf_ok {d : D} {xs : List D} (h : lstOf d = some xs) : d = .lst xs ∨ d = .kst xs := by
  cases d <;> simp [lstOf] at h
  · exact .inl (by rw [h])
  · exact .inr (by rw [h])
def zipO : List D → Option (List D)
  | [.tup xs, .tup ys] => if xs.length ≤ lim then some (zipD xs ys) else none
  | [d, e] => (lstOf d).bind fun xs => (lstOf e).bind fun ys => if xs.length ≤ lim then some (zipD xs ys) else none
  | _ => none
def iZp (m : AM) : IM := fun env z => (m env z).bind fun p => (zipO p.1).map fun r => (r, p.2)
theorem ie_zip {e e2 : Expr} {p pos tpos : Pos} {elts : List Expr} {kk : Nat} {m : AM} {kp : Bool} (hX : Of X g) (hm : g.mg "zip" = none) (ha : AE X g [e, e2] m) (hg : Gl X "zip" := by rfl)
    (hs : starEach [e, e2] X.env = (false, eval e X.env) :: starEach [e2] X.env := by rfl) (hpl : (backTo pos (starEach [e2] X.env)).any (·.1) = false := by rfl) :
    IE X g kp (.Tuple elts kk tpos) (.Call (.Name "zip" p) [e, e2] [] pos) (iZp m) :=
  PI.imp (RZ.pi_zipA hg (by rw [hX.mg]; exact hm) ha hs hpl) fun σ H R ⟨F, env, z, ds, z', sr, e, h⟩ => by
    obtain ⟨⟨ds0, z1⟩, q1, e⟩ := obind e
    obtain ⟨r0, q2, e7⟩ := omap e
    cases e7
    clear e
    have lz : ∀ xs ys : List D, xs.length ≤ lim → (zipD xs ys).length ≤ lim := fun xs ys hl => by rw [zipD_len]; omega
    have other : ∀ d e, ds0 = [d, e] → ((lstOf d).bind fun xs => (lstOf e).bind fun ys => if xs.length ≤ lim then some (zipD xs ys) else none) = some ds → RZ.iZipA X.K (tAr g m) σ H R := fun d e hd q => by
      subst hd
      obtain ⟨xs, hx, q⟩ := obind q
      obtain ⟨ys, hy, q⟩ := obind q
      split at q
      · rename_i hl
        cases q
        refine tAr.at sr q1 fun vs F1 H1 s1 k1 => ?_
        obtain ⟨v1, v2, rfl, k1, k2⟩ := k1.two
        obtain ⟨a, us, rfl, ha, _, ra⟩ := k1.seq (lstOf_ok hx)
        obtain ⟨b, ws, rfl, hb, _, rb⟩ := k2.seq (lstOf_ok hy)
        rw [hX.K]
        refine ⟨a, b, us, ws, rfl, .inl ⟨SqL.same s1.sub ha, SqL.same s1.sub hb, h _ F1 H1 s1 (lz _ _ hl) (drv_new fun F2 H2 a1 a2 => ?_)⟩⟩
        have ha2 : SqL g.K H2 a us := SqL.same (a1.trans a2) ha
        have hb2 : SqL g.K H2 b ws := SqL.same (a1.trans a2) hb
        refine ⟨fun i d e1 => ?_, fun i e1 => ⟨us, ws, ha2, hb2, by rw [ra.length, rb.length]; rw [zipD_len] at e1; omega⟩⟩
        obtain ⟨d', e', h1, h2, h3⟩ := zipD_get e1
        obtain ⟨v, g1, g2⟩ := ra.get h1
        obtain ⟨w, g3, g4⟩ := rb.get h2
        refine ⟨⟨us, ws, v, w, ha2, hb2, g1, g3⟩, fun x H3 ⟨T, y, y2, e2, e3, e4, e5, e6⟩ => ?_⟩
        have := e5 us ha2
        rw [g1] at this
        cases this
        have := e6 ws hb2
        rw [g3] at this
        cases this
        exact ⟨T, _, _, e2, e3, e4, h3, .cons g2 (.cons g4 .nil), two63⟩
      · cases q
    unfold zipO at q2
    split at q2
    · rename_i xs ys hds
      split at q2
      · rename_i hl
        cases q2
        simp only at hds
        subst hds
        refine tAr.at sr q1 fun vs F1 H1 s1 k1 => ?_
        obtain ⟨v1, v2, rfl, k1, k2⟩ := k1.two
        cases k1 with
        | @tup a us _ ha _ ra =>
          cases k2 with
          | @tup b ws _ hb _ rb =>
            rw [hX.K]
            refine ⟨a, b, us, ws, rfl, .inr ⟨SqT.same s1.sub ha, SqT.same s1.sub hb, h _ F1 H1 s1 (lz _ _ hl) (drv_new fun F2 H2 a1 a2 => ?_)⟩⟩
            have ha2 : SqT g.K H2 a us := SqT.same (a1.trans a2) ha
            have hb2 : SqT g.K H2 b ws := SqT.same (a1.trans a2) hb
            refine ⟨fun i d e1 => ?_, fun i e1 => ⟨us, ws, ha2, hb2, by rw [ra.length, rb.length]; rw [zipD_len] at e1; omega⟩⟩
            obtain ⟨d', e', h1, h2, h3⟩ := zipD_get e1
            obtain ⟨v, g1, g2⟩ := ra.get h1
            obtain ⟨w, g3, g4⟩ := rb.get h2
            refine ⟨⟨us, ws, v, w, ha2, hb2, g1, g3⟩, fun x H3 ⟨T, y, y2, e2, e3, e4, e5, e6⟩ => ?_⟩
            have := e5 us ha2
            rw [g1] at this
            cases this
            have := e6 ws hb2
            rw [g3] at this
            cases this
            exact ⟨T, _, _, e2, e3, e4, h3, .cons g2 (.cons g4 .nil), two63⟩
      · cases q2
    · rename_i d e _ hds
      simp only at *; exact other _ _ (by assumption) q2
    · cases q2
theorem pu_zip {m : AM} (h : PuA m) : PuI (iZp m) := fun a b w z d w' l e => by
  obtain ⟨⟨d1, w1⟩, q, e1⟩ := obind e
  obtain ⟨rfl, k⟩ := h _ b _ z _ _ l q
  obtain ⟨r, q2, e2⟩ := omap e1
  cases e2
  exact ⟨rfl, by simp only at q2; simp [iZp, k, q2]⟩
/-! ### reversed -/
def iRev' (m : EM) : IM := fun env z => (m env z).bind fun p => match p.1 with
  | .lst xs => if xs.length ≤ lim then some (xs.reverse, p.2.2) else none
  | .kst xs => if xs.length ≤ lim then some (xs.reverse, p.2.2) else none
  | .tup xs => if xs.length ≤ lim then some (xs.reverse, p.2.2) else none
  | _ => none
theorem rev_get {ds : List D} {i : Nat} {d : D} (h : ds.reverse[i]? = some d) : i < ds.length ∧ ds[ds.length - 1 - i]? = some d := by
  have hi : i < ds.length := by
    have := (List.getElem?_eq_some_iff.mp h).1
    simpa using this
  rw [List.getElem?_reverse hi] at h
  exact ⟨hi, h⟩
theorem ie_rev {tg e : Expr} {p pos : Pos} {m : EM} {kp : Bool} (hX : Of X g) (hm : g.mg "reversed" = none) (he : EE X g e m) (hg : Gl X "reversed" := by rfl) (hs : starEach [e] X.env = (false, eval e X.env) :: starEach [] X.env := by rfl) :
    IE X g kp tg (.Call (.Name "reversed" p) [e] [] pos) (iRev' m) :=
  PI.imp (RT.pi_revA hg (by rw [hX.mg]; exact hm) he hs) fun σ H R ⟨F, env, z, ds, z', sr, e, h⟩ => by
    obtain ⟨⟨d0, fr, z1⟩, q1, e⟩ := obind e
    have key : ∀ (xs : List D), d0 = .lst xs ∨ d0 = .kst xs → (if xs.length ≤ lim then some (xs.reverse, z1) else none) = some (ds, z') → RT.iRevA X.K (tE g m) σ H R := fun xs hd e9 => by
      clear e
      split at e9
      · rename_i hl
        cases e9
        refine tE.sh sr q1 fun v F1 H1 s1 k1 => ?_
        obtain ⟨a, vs, rfl, hq, hz, r⟩ := k1.seq hd
        rw [hX.K]
        refine ⟨a, vs, rfl, .inl ⟨SqL.same s1.sub hq, h _ F1 H1 s1 (by rw [List.length_reverse]; exact hl) fun F2 H2 a1 a2 _ => ?_⟩⟩
        have hq2 : SqL g.K H2 a vs := SqL.same (a1.trans a2) hq
        refine ⟨fun i d e1 => ?_, fun i e1 => by rw [List.length_reverse] at e1; show vs.length ≤ i; rw [r.length]; exact e1⟩
        obtain ⟨hi, h1⟩ := rev_get e1
        obtain ⟨v, g1, g2⟩ := r.get h1
        rw [← r.length] at g1 hi
        refine ⟨⟨hi, vs, v, hq2, g1⟩, fun x H3 ⟨e2, e3⟩ => ?_⟩
        subst e2
        have := e3 vs hq2
        rw [g1] at this
        cases this
        exact ⟨F2, fun z c => Step.refl a2 c, g2.same a1⟩
      · cases e9
    cases d0 with
    | lst xs => exact key xs (.inl rfl) e
    | kst xs => exact key xs (.inr rfl) e
    | tup xs =>
      simp only at e
      split at e
      · rename_i hl
        cases e
        refine tE.sh sr q1 fun v F1 H1 s1 k1 => ?_
        cases k1 with
        | tup hq hz r =>
          rename_i a vs
          rw [hX.K]
          refine ⟨a, vs, rfl, .inr ⟨SqT.same s1.sub hq, h _ F1 H1 s1 (by rw [List.length_reverse]; exact hl) fun F2 H2 a1 a2 _ => ?_⟩⟩
          have hq2 : SqT g.K H2 a vs := SqT.same (a1.trans a2) hq
          refine ⟨fun i d e1 => ?_, fun i e1 => by rw [List.length_reverse] at e1; show vs.length ≤ i; rw [r.length]; exact e1⟩
          obtain ⟨hi, h1⟩ := rev_get e1
          obtain ⟨v, g1, g2⟩ := r.get h1
          rw [← r.length] at g1 hi
          refine ⟨⟨hi, vs, v, hq2, g1⟩, fun x H3 ⟨e2, e3⟩ => ?_⟩
          subst e2
          have := e3 vs hq2
          rw [g1] at this
          cases this
          exact ⟨F2, fun z c => Step.refl a2 c, g2.same a1⟩
      · cases e
    | _ => cases e
theorem pu_rev {m : EM} (h : PuE m) : PuI (iRev' m) := fun a b w z d w' l e => by
  obtain ⟨⟨d1, f1, w1⟩, q, e1⟩ := obind e
  obtain ⟨rfl, k⟩ := h _ b _ z _ _ _ l q
  cases d1 with
  | lst xs => simp only at e1; split at e1; · (rename_i hl; cases e1; exact ⟨rfl, by unfold iRev'; rw [k]; simp [hl]⟩)
              · cases e1
  | kst xs => simp only at e1; split at e1; · (rename_i hl; cases e1; exact ⟨rfl, by unfold iRev'; rw [k]; simp [hl]⟩)
              · cases e1
  | tup xs => simp only at e1; split at e1; · (rename_i hl; cases e1; exact ⟨rfl, by unfold iRev'; rw [k]; simp [hl]⟩)
              · cases e1
  | _ => cases e1
/-! ### range downwards -/
def rngDn (lo : Int) : Nat → List D
  | 0 => []
  | n + 1 => .int lo :: rngDn (lo - 1) n
theorem rngDn_len : ∀ (lo : Int) (n : Nat), (rngDn lo n).length = n
  | _, 0 => rfl
  | lo, n + 1 => by simp [rngDn, rngDn_len]
theorem rngDn_get : ∀ {lo : Int} {n i : Nat} {d : D}, (rngDn lo n)[i]? = some d → i < n ∧ d = .int (lo + (i : Nat) * (-1))
  | lo, 0, i, d, h => by simp [rngDn] at h
  | lo, n + 1, 0, d, h => by simp [rngDn] at h; exact ⟨by omega, by rw [← h]; simp⟩
  | lo, n + 1, i + 1, d, h => by
    simp only [rngDn, List.getElem?_cons_succ] at h
    obtain ⟨h1, h2⟩ := rngDn_get h
    refine ⟨by omega, ?_⟩
    rw [h2]; congr 1; omega
def iRg3 (m : AM) : IM := fun env z => (m env z).bind fun p => match p.1 with
  | [.int i, .int j, .int (-1)] => if rngOk j i && decide (i < 4611686018427387904) then some (rngDn i (i - j).toNat, p.2) else none
  | _ => none
theorem ie_rg3 {tg a b c : Expr} {p pos : Pos} {m : AM} {kp : Bool} (hX : Of X g) (hm : g.mg "range" = none) (ha : AE X g [a, b, c] m) (hg : Gl X "range" := by rfl)
    (hs : starEach [a, b, c] X.env = (false, eval a X.env) :: starEach [b, c] X.env := by rfl) (hpl : (backTo pos (starEach [b, c] X.env)).any (·.1) = false := by rfl) :
    IE X g kp tg (.Call (.Name "range" p) [a, b, c] [] pos) (iRg3 m) :=
  PI.imp (pi_range3 hg (by rw [hX.mg]; exact hm) ha hs hpl) fun σ H R ⟨F, env, z, ds, z', sr, e, h⟩ => by
    obtain ⟨⟨ds0, z1⟩, q1, e⟩ := obind e
    simp only at e
    split at e
    · rename_i i j
      split at e
      · rename_i hl
        cases e
        unfold rngOk at hl
        simp only [Bool.and_eq_true, decide_eq_true_eq] at hl
        refine tAr.at sr q1 fun vs F1 H1 s1 k1 => ?_
        obtain ⟨v1, v2, v3, rfl, k1, k2, k3⟩ := k1.three
        cases k1; cases k2; cases k3
        refine ⟨i, j, -1, (i - j).toNat, rfl, RgC.neg (by omega) (by omega) (by omega) (by omega), h _ F1 H1 s1 (by rw [rngDn_len]; have := hl.1.2; omega) fun F2 H2 a1 a2 _ => ?_⟩
        refine ⟨fun i d e1 => ?_, fun i e1 => by rw [rngDn_len] at e1; exact e1⟩
        obtain ⟨hi, rfl⟩ := rngDn_get e1
        refine ⟨hi, fun x H3 y => ?_⟩
        obtain ⟨rfl, rfl⟩ := y
        exact ⟨F2, fun z c => Step.refl a2 c, .int _⟩
      · cases e
    · cases e
theorem pu_rg3 {m : AM} (h : PuA m) : PuI (iRg3 m) := fun a b w z d w' l e => by
  obtain ⟨⟨d1, w1⟩, q, e1⟩ := obind e
  obtain ⟨rfl, k⟩ := h _ b _ z _ _ l q
  simp only at e1
  split at e1
  · split at e1
    · rename_i hl; cases e1; exact ⟨rfl, by unfold iRg3; rw [k]; simp only [Option.bind_some]; rw [if_pos hl]⟩
    · cases e1
  · cases e1
end
end Tw
namespace Tw
open PySem PySem.Spec PyProof.Rows L2
section
variable {g : Gc} {X : Cx}
/-- -1 -/
def eM1 : EM := eC (.int (-1))
theorem ee_m1 {p : Pos} {p2 : Pos} {k kp} : EE X g (.UnaryOp .USub (.Constant (.int 1) k kp) p) eM1 :=
  PE.imp (ee_neg (oe_of ee_int)) fun σ H Q h => h
theorem pu_m1 : PuE eM1 := pu_c
end
end Tw

/-! the state that a law draws from, for every script -/
namespace Tw
open PySem PySem.Spec PyProof.Rows L2
theorem fLt_int (i j : Int) : fLt (.int i) (.int j) = some (decide (i < j)) := by
  show some (cI i j == .lt) = _
  rw [(cI_ok i j).2.1]
theorem fGt_int (i j : Int) : fGt (.int i) (.int j) = some (decide (j < i)) := by
  show some (cI i j == .gt) = _
  rw [(cI_ok i j).2.2.1]
theorem fGe_int (i j : Int) : fGe (.int i) (.int j) = some (!decide (i < j)) := by
  show some (!(cI i j == .lt)) = _
  rw [(cI_ok i j).2.1]
theorem atI_map {ns : List Int} {i : Int} (h0 : 0 ≤ i) (h1 : i < ns.length) : ∃ v : Int, atI (ns.map D.int) i = some (.int v) := by
  unfold L2.atI ixN
  rw [List.length_map, if_pos h0, if_pos h1]
  have hl : i.toNat < ns.length := by omega
  refine ⟨ns[i.toNat], ?_⟩
  simp [List.getElem?_eq_getElem hl]
theorem mulOk_l {i j : Int} (h : i.natAbs < 18446744073709551616) : mulOk i j = true := by unfold mulOk; simp [h]
theorem mulOk_r {i j : Int} (h : j.natAbs < 18446744073709551616) : mulOk i j = true := by unfold mulOk; simp [h]
def cellB : SM := (sSeq (sIf (cAnd (cCmp fLt (oV 1) (oE (eBlt dLen (aConsO (oV 0) aNil)))) (cCmp fGe (oE (mBin dIx (oV 0) (oV 1))) (oE (mBin dPow (oE (eC (.int 10))) (oE (eC (.int 9))))))) (sRet (mBin dIx (oV 0) (oV 1))) sNil) (sSeq (sSet 2 (mBin fAdd (oE (mBin dMul (oE (eC (.int 7))) (oV 1))) (oE (eC (.int 1))))) (sSeq (sIf (cCmp fGt (oE (eBlt dLen (aConsO (oV 0) aNil))) (oE (eC (.int 0)))) (sSet 2 (mBin fAdd (oV 2) (oE (mBin dMul (oE (eC (.int 31))) (oE (mBin dIx (oV 0) (oE (mBin dMod (oE (eBlt dInt (aConsO (oV 1) aNil))) (oE (eBlt dLen (aConsO (oV 0) aNil))))))))))) sNil) (sSeq (sSet 2 (mBin dMod (oE (eBlt dInt (aConsO (oE (mBin fAdd (oE (mBin dMul (oV 2) (oE (eC (.int 48271))))) (oE (mBin dMul (oE (eC (.int 69621))) (oV 1))))) aNil))) (oE (eC (.int 2147483647))))) (sRet (mBin dMod (oE (eBlt dInt (aConsO (oE (mBin fAdd (oE (mBin dMul (oV 2) (oV 2))) (oE (mBin dMul (oE (eC (.int 48271))) (oE (mBin dDiv (oV 2) (oE (eC (.int 1000))))))))) aNil))) (oE (eC (.int 2147483629)))))))))
theorem oplus (i j : Int) : fAdd (.int i) (.int j) = some (.int (i + j), false) := rfl
/-- the last two statements -/
theorem cell_tail (D0 : D) (k c z : Int) : ∃ r e, (sSeq (sSet 2 (mBin dMod (oE (eBlt dInt (aConsO (oE (mBin fAdd (oE (mBin dMul (oV 2) (oE (eC (.int 48271))))) (oE (mBin dMul (oE (eC (.int 69621))) (oV 1))))) aNil))) (oE (eC (.int 2147483647))))) (sRet (mBin dMod (oE (eBlt dInt (aConsO (oE (mBin fAdd (oE (mBin dMul (oV 2) (oV 2))) (oE (mBin dMul (oE (eC (.int 48271))) (oE (mBin dDiv (oV 2) (oE (eC (.int 1000))))))))) aNil))) (oE (eC (.int 2147483629)))))) [.sh D0, .sh (.int k), .sh (.int c)] z = .rt (.int r) false e z := by
  have m1 : mulOk c 48271 = true := mulOk_r (by decide)
  have m2 : mulOk 69621 k = true := mulOk_l (by decide)
  generalize hv : (c * 48271 + 69621 * k).fmod 2147483647 = v
  have v0 : 0 ≤ v := by rw [← hv]; exact Int.fmod_nonneg_of_pos _ (by decide)
  have v1 : v < 2147483647 := by rw [← hv]; exact Int.fmod_lt_of_pos _ (by decide)
  have m3 : mulOk v v = true := mulOk_r (by omega)
  have m4 : mulOk 48271 (v.fdiv 1000) = true := mulOk_l (by decide)
  have l1 : (1000 : Nat).log2 < 9000 := by decide
  refine ⟨(v * v + 48271 * v.fdiv 1000).fmod 2147483629, [.sh D0, .sh (.int k), .sh (.int v)], ?_⟩
  simp [sSeq, sSet, sRet, mBin, oE, eBlt, aConsO, aNil, oV, dMod, dInt, dMul, eC, oplus, m1, m2, hv, m3, m4, dDiv, l1]
theorem cellB_ok (ns : List Int) (k : Nat) (h63 : ns.length ≤ 63) (z : Int) : ∃ r e, cellB [.sh (.kst (ns.map D.int)), .sh (.int k), .un] z = .rt (.int r) false e z := by
  have p10 : (10 : Int) ^ (9 : Int).toNat = 1000000000 := by decide
  have m7 : mulOk 7 (k : Int) = true := mulOk_l (by decide)
  have rest : ∃ r e, (sSeq (sSet 2 (mBin fAdd (oE (mBin dMul (oE (eC (.int 7))) (oV 1))) (oE (eC (.int 1))))) (sSeq (sIf (cCmp fGt (oE (eBlt dLen (aConsO (oV 0) aNil))) (oE (eC (.int 0)))) (sSet 2 (mBin fAdd (oV 2) (oE (mBin dMul (oE (eC (.int 31))) (oE (mBin dIx (oV 0) (oE (mBin dMod (oE (eBlt dInt (aConsO (oV 1) aNil))) (oE (eBlt dLen (aConsO (oV 0) aNil))))))))))) sNil) (sSeq (sSet 2 (mBin dMod (oE (eBlt dInt (aConsO (oE (mBin fAdd (oE (mBin dMul (oV 2) (oE (eC (.int 48271))))) (oE (mBin dMul (oE (eC (.int 69621))) (oV 1))))) aNil))) (oE (eC (.int 2147483647))))) (sRet (mBin dMod (oE (eBlt dInt (aConsO (oE (mBin fAdd (oE (mBin dMul (oV 2) (oV 2))) (oE (mBin dMul (oE (eC (.int 48271))) (oE (mBin dDiv (oV 2) (oE (eC (.int 1000))))))))) aNil))) (oE (eC (.int 2147483629)))))))) [.sh (.kst (ns.map D.int)), .sh (.int k), .un] z = .rt (.int r) false e z := by
    have s1 : (sSet 2 (mBin fAdd (oE (mBin dMul (oE (eC (.int 7))) (oV 1))) (oE (eC (.int 1))))) [.sh (.kst (ns.map D.int)), .sh (.int k), .un] z = .nx [.sh (.kst (ns.map D.int)), .sh (.int k), .sh (.int (7 * k + 1))] z := by
      simp [sSet, mBin, oE, oV, dMul, eC, oplus, m7]
    have s2 : ∃ c : Int, (sIf (cCmp fGt (oE (eBlt dLen (aConsO (oV 0) aNil))) (oE (eC (.int 0)))) (sSet 2 (mBin fAdd (oV 2) (oE (mBin dMul (oE (eC (.int 31))) (oE (mBin dIx (oV 0) (oE (mBin dMod (oE (eBlt dInt (aConsO (oV 1) aNil))) (oE (eBlt dLen (aConsO (oV 0) aNil))))))))))) sNil) [.sh (.kst (ns.map D.int)), .sh (.int k), .sh (.int (7 * k + 1))] z = .nx [.sh (.kst (ns.map D.int)), .sh (.int k), .sh (.int c)] z := by
      by_cases h : ns.length = 0
      · refine ⟨7 * k + 1, ?_⟩
        simp [sIf, cCmp, oE, eBlt, aConsO, oV, aNil, dLen, eC, fGt_int, h, sNil]
      · have hp : (0 : Int) < ns.length := by omega
        obtain ⟨v, hv⟩ := atI_map (ns := ns) (i := (k : Int).fmod ns.length) (Int.fmod_nonneg_of_pos _ hp) (Int.fmod_lt_of_pos _ hp)
        have m31 : mulOk 31 v = true := mulOk_l (by decide)
        refine ⟨7 * k + 1 + 31 * v, ?_⟩
        have hn : ¬ ns = [] := fun e => h (by rw [e]; rfl)
        have hn' : 0 < ns.length := by omega
        simp [sIf, cCmp, oE, eBlt, aConsO, oV, aNil, dLen, eC, fGt_int, hn, hn', sSet, mBin, dMod, dInt, dIx, hv, dMul, m31, oplus]
    obtain ⟨c, s2⟩ := s2
    obtain ⟨r, e, s3⟩ := cell_tail (.kst (ns.map D.int)) k c z
    refine ⟨r, e, ?_⟩
    rw [sSeq, s1]
    simp only
    rw [sSeq, s2]
    simp only
    exact s3
  obtain ⟨r, e, hr⟩ := rest
  by_cases hk : (k : Int) < ns.length
  · obtain ⟨v, hv⟩ := atI_map (ns := ns) (i := k) (by omega) hk
    by_cases hb : v < 1000000000
    · refine ⟨r, e, ?_⟩
      unfold cellB
      rw [sSeq]
      have s0 : (sIf (cAnd (cCmp fLt (oV 1) (oE (eBlt dLen (aConsO (oV 0) aNil)))) (cCmp fGe (oE (mBin dIx (oV 0) (oV 1))) (oE (mBin dPow (oE (eC (.int 10))) (oE (eC (.int 9))))))) (sRet (mBin dIx (oV 0) (oV 1))) sNil) [.sh (.kst (ns.map D.int)), .sh (.int k), .un] z = .nx [.sh (.kst (ns.map D.int)), .sh (.int k), .un] z := by
        have hk' : k < ns.length := by omega
        simp [sIf, cAnd, cCmp, oE, eBlt, aConsO, oV, aNil, dLen, eC, fLt_int, fGe_int, hk', mBin, dIx, hv, dPow, p10, hb, sNil]
      rw [s0]
      exact hr
    · refine ⟨v, [.sh (.kst (ns.map D.int)), .sh (.int k), .un], ?_⟩
      unfold cellB
      rw [sSeq]
      have s0 : (sIf (cAnd (cCmp fLt (oV 1) (oE (eBlt dLen (aConsO (oV 0) aNil)))) (cCmp fGe (oE (mBin dIx (oV 0) (oV 1))) (oE (mBin dPow (oE (eC (.int 10))) (oE (eC (.int 9))))))) (sRet (mBin dIx (oV 0) (oV 1))) sNil) [.sh (.kst (ns.map D.int)), .sh (.int k), .un] z = .rt (.int v) false [.sh (.kst (ns.map D.int)), .sh (.int k), .un] z := by
        have hk' : k < ns.length := by omega
        simp [sIf, cAnd, cCmp, oE, eBlt, aConsO, oV, aNil, dLen, eC, fLt_int, fGe_int, hk', mBin, dIx, hv, dPow, p10, hb, sRet]
      rw [s0]
  · refine ⟨r, e, ?_⟩
    unfold cellB
    rw [sSeq]
    have s0 : (sIf (cAnd (cCmp fLt (oV 1) (oE (eBlt dLen (aConsO (oV 0) aNil)))) (cCmp fGe (oE (mBin dIx (oV 0) (oV 1))) (oE (mBin dPow (oE (eC (.int 10))) (oE (eC (.int 9))))))) (sRet (mBin dIx (oV 0) (oV 1))) sNil) [.sh (.kst (ns.map D.int)), .sh (.int k), .un] z = .nx [.sh (.kst (ns.map D.int)), .sh (.int k), .un] z := by
      have hk' : ¬ k < ns.length := by omega
      simp [sIf, cAnd, cCmp, oE, eBlt, aConsO, oV, aNil, dLen, eC, fLt_int, hk', sNil]
    rw [s0]
    exact hr
/-- the sum of the cells -/
def bigB (c : List D → Int → ER) : SM := (sSeq (sSet 3 (eC (.int 0))) (sSeq (sFor (iRg1 (aCons (eV 2) aNil)) (bName 4) (sSet 3 (mBin fAdd (oE (mBin dMul (oV 3) (oE (eC (.int 2147483648))))) (oE (eCall c (aCons (eV 0) (aCons (mBin fAdd (oV 1) (oV 4)) aNil))))))) (sRet (eLst (aCons (eV 3) aNil)))))
theorem mBin_of {f : D → D → Option (D × Bool)} {a b : OM} {env : Env'} {z w w2 : Int} {d e : D} {r : D × Bool} (h1 : a env z = some (d, w)) (h2 : b env w = some (e, w2)) (h3 : f d e = some r) : mBin f a b env z = some (r.1, r.2, w2) := by simp [mBin, h1, h2, h3]
def bodyB (c : List D → Int → ER) : SM := (sSet 3 (mBin fAdd (oE (mBin dMul (oV 3) (oE (eC (.int 2147483648))))) (oE (eCall c (aCons (eV 0) (aCons (mBin fAdd (oV 1) (oV 4)) aNil))))))
theorem body_ok {c : List D → Int → ER} {D0 D1 : D} {k f v z : Int} (hv : c [D0, .int k] z = some (.int v, false, z)) : bodyB c [.sh D0, .sh (.int 0), .sh D1, .sh (.int f), .sh (.int k)] z = .nx [.sh D0, .sh (.int 0), .sh D1, .sh (.int (f * 2147483648 + v)), .sh (.int k)] z := by
  have m1 : mulOk f 2147483648 = true := mulOk_r (by decide)
  have a1 : oE (mBin dMul (oV 3) (oE (eC (.int 2147483648)))) [.sh D0, .sh (.int 0), .sh D1, .sh (.int f), .sh (.int k)] z = some (.int (f * 2147483648), z) := by
    simp [oE, mBin, oV, eC, dMul, m1]
  have a2 : oE (eCall c (aCons (eV 0) (aCons (mBin fAdd (oV 1) (oV 4)) aNil))) [.sh D0, .sh (.int 0), .sh D1, .sh (.int f), .sh (.int k)] z = some (.int v, z) := by
    have a3 : aCons (eV 0) (aCons (mBin fAdd (oV 1) (oV 4)) aNil) [.sh D0, .sh (.int 0), .sh D1, .sh (.int f), .sh (.int k)] z = some ([D0, .int k], z) := by
      simp [aCons, eV, mBin, oV, oplus, aNil]
    unfold oE eCall
    rw [a3]
    show ((c [D0, .int k] z).map fun r => (r.1, r.2.2)) = _
    rw [hv]; rfl
  have a4 := mBin_of a1 a2 (oplus _ _)
  unfold bodyB sSet
  rw [a4]
  rfl
theorem loop_ok {c : List D → Int → ER} {D0 D1 : D} {z : Int} (hc : ∀ (k : Nat) (z : Int), ∃ r, c [D0, .int k] z = some (.int r, false, z)) : ∀ (ks : List Nat) (f : Int) (s : Slot), ∃ r t, forL (bName 4) (bodyB c) (ks.map fun (k : Nat) => D.int (0 + (k : Int))) [.sh D0, .sh (.int 0), .sh D1, .sh (.int f), s] z = .nx [.sh D0, .sh (.int 0), .sh D1, .sh (.int r), t] z := by
  intro ks
  induction ks with
  | nil => intro f s; exact ⟨f, s, rfl⟩
  | cons k ks ih =>
    intro f s
    obtain ⟨v, hv⟩ := hc k z
    have hv' : c [D0, .int (0 + (k : Int))] z = some (.int v, false, z) := by rw [← hv]; congr 3; simp
    obtain ⟨r, t, h⟩ := ih (f * 2147483648 + v) (.sh (.int (0 + (k : Int))))
    refine ⟨r, t, ?_⟩
    rw [List.map_cons, forL]
    have hb : bName 4 (D.int (0 + (k : Int))) [.sh D0, .sh (.int 0), .sh D1, .sh (.int f), s] = some [.sh D0, .sh (.int 0), .sh D1, .sh (.int f), .sh (.int (0 + (k : Int)))] := rfl
    rw [hb]
    simp only
    rw [body_ok hv']
    exact h
theorem rngOk_n {n : Nat} (hn : n ≤ 1000) : rngOk 0 (n : Int) = true := by
  unfold rngOk
  rw [decide_eq_true (by omega), decide_eq_true (by omega), decide_eq_true (by omega), decide_eq_true (by omega), decide_eq_true (by show ((n : Int) - 0).toNat ≤ 16777216; omega)]
  rfl
theorem iRg1_of {m : AM} {env : Env'} {z w j : Int} {ds : List D} (h : m env z = some ([.int j], w)) (hr : rngOk 0 j = true) (hd : rngD 0 j.toNat = ds) : iRg1 m env z = some (ds, w) := by
  unfold iRg1
  rw [h]
  simp [hr, hd]
theorem rg_n {n : Nat} (hn : n ≤ 1000) {a b s t : Slot} {z : Int} : iRg1 (aCons (eV 2) aNil) [a, b, .sh (.int n), s, t] z = some ((List.range n).map fun (k : Nat) => D.int (0 + (k : Int)), z) :=
  iRg1_of rfl (rngOk_n hn) (by rw [Int.toNat_natCast]; rfl)
theorem lst1 {a b c t : Slot} {r z : Int} : eLst (aCons (eV 3) aNil) [a, b, c, .sh (.int r), t] z = some (.lst [.int r], true, z) := by
  have e : aCons (eV 3) aNil [a, b, c, .sh (.int r), t] z = some ([.int r], z) := rfl
  unfold eLst
  rw [e]
  have l1 : [D.int r].length ≤ lim := by rw [List.length_singleton]; show 1 ≤ 16777216; omega
  simp only [Option.bind_some]
  rw [if_pos l1]
theorem bigG_ok {c : List D → Int → ER} {D0 D1 : D} {it : IM} {ks : List Nat} {z : Int} (hc : ∀ (k : Nat) (z : Int), ∃ r, c [D0, .int k] z = some (.int r, false, z)) (hi : it [.sh D0, .sh (.int 0), .sh D1, .sh (.int 0), .un] z = some (ks.map fun (k : Nat) => D.int (0 + (k : Int)), z)) :
    ∃ r e, sSeq (sSet 3 (eC (.int 0))) (sSeq (sFor it (bName 4) (bodyB c)) (sRet (eLst (aCons (eV 3) aNil)))) [.sh D0, .sh (.int 0), .sh D1, .un, .un] z = .rt (.lst [.int r]) true e z := by
  obtain ⟨r, t, h⟩ := loop_ok (D1 := D1) (z := z) hc ks 0 .un
  refine ⟨r, [.sh D0, .sh (.int 0), .sh D1, .sh (.int r), t], ?_⟩
  have s1 : (sSet 3 (eC (.int 0))) [.sh D0, .sh (.int 0), .sh D1, .un, .un] z = .nx [.sh D0, .sh (.int 0), .sh D1, .sh (.int 0), .un] z := rfl
  have s2 : sFor it (bName 4) (bodyB c) [.sh D0, .sh (.int 0), .sh D1, .sh (.int 0), .un] z = .nx [.sh D0, .sh (.int 0), .sh D1, .sh (.int r), t] z := by
    unfold sFor
    rw [hi]
    exact h
  have s3 : sRet (eLst (aCons (eV 3) aNil)) [.sh D0, .sh (.int 0), .sh D1, .sh (.int r), t] z = .rt (.lst [.int r]) true [.sh D0, .sh (.int 0), .sh D1, .sh (.int r), t] z := by
    unfold sRet
    rw [lst1]
  unfold sSeq
  rw [s1]
  simp only
  rw [s2]
  simp only
  exact s3
theorem bigB_ok {c : List D → Int → ER} (D0 : D) (hc : ∀ (k : Nat) (z : Int), ∃ r, c [D0, .int k] z = some (.int r, false, z)) (n : Nat) (hn : n ≤ 1000) (z : Int) : ∃ r e, bigB c [.sh D0, .sh (.int 0), .sh (.int n), .un, .un] z = .rt (.lst [.int r]) true e z :=
  bigG_ok hc (rg_n hn)
/-! ### what stands in the module -/
def DefIn (K : PySem.W.Frag) (mg : Str → Option Value) (x : Str) (st : Stmt) (ps : List Str) : Prop := ∃ f fd, Fun K x x st f fd ∧ mg x = some (.ref f) ∧ Binds K fd ps []
def DefLaw (K : PySem.W.Frag) (mg : Str → Option Value) (x : Str) (st : Stmt) (p : Str) : Prop := ∃ f fd, Fun K x x st f fd ∧ mg x = some (.ref f) ∧ ∀ v : Value, bindArgs fd ⟨[v], []⟩ = pure [(p, v)]
section
variable {K : PySem.W.Frag} {h : Heap} {mg : Str → Option Value} {f : Addr} {x : Str} {st : Stmt}
theorem defIn_mk {ps : List Str} (X : K.In h) (G : h.Ns mainGlobals mg) {oc : Value} {od an : Option Addr} {osl : Array (Option Value)} {kV doc pm cdv ct : Value}
    (a : PySem.W.nsIn K mainGlobals x = some (some (.ref f))) (l : K.lookup f = some ⟨oc, od, .func (PySem.W.fnOf x x (defArgs st) (defBody st) (defScope st) .none kV doc pm an cdv ct), osl⟩)
    (c : PySem.W.codeIn K cdv x = true) (k : PySem.W.keepIn K (.ref f) = true)
    (h : ∀ (kV doc pm : Value) (an : Option Addr) (cdv ct : Value) (us : List Value), us.length = ps.length → bindArgs (PySem.W.fnOf x x (defArgs st) (defBody st) (defScope st) .none kV doc pm an cdv ct) ⟨us, []⟩ = pure (ps.zip us)) : DefIn K mg x st ps := by
  have F := fun_mk l c k
  exact ⟨_, _, F, PySem.W.mg_of X G a, F.binds h⟩
theorem defLaw_mk {p : Str} (X : K.In h) (G : h.Ns mainGlobals mg) {oc : Value} {od an : Option Addr} {osl : Array (Option Value)} {kV doc pm cdv ct : Value}
    (a : PySem.W.nsIn K mainGlobals x = some (some (.ref f))) (l : K.lookup f = some ⟨oc, od, .func (PySem.W.fnOf x x (defArgs st) (defBody st) (defScope st) .none kV doc pm an cdv ct), osl⟩)
    (c : PySem.W.codeIn K cdv x = true) (k : PySem.W.keepIn K (.ref f) = true)
    (h : ∀ (kV doc pm : Value) (an : Option Addr) (cdv ct : Value) (v : Value), bindArgs (PySem.W.fnOf x x (defArgs st) (defBody st) (defScope st) .none kV doc pm an cdv ct) ⟨[v], []⟩ = pure [(p, v)]) : DefLaw K mg x st p := by
  have F := fun_mk l c k
  exact ⟨_, _, F, PySem.W.mg_of X G a, fun v => h _ _ _ _ _ _ v⟩
end
end Tw

/-! more of the runs over a tape; and runs with fast answers in place of a def's -/
namespace Tw
open PySem PySem.Spec PyProof.Rows L2
theorem dr_and {m n m' n' : EM} (h1 : DrE m m') (h2 : DrE n n') : DrE (eAnd m n) (eAnd m' n') := fun a b w z d fr w' l t e => by
  obtain ⟨⟨d1, w1⟩, q1, e1⟩ := obind e
  obtain ⟨z1, k1, t1⟩ := dr_ce h1 _ b _ z _ _ l t q1
  cases d1 with
  | true =>
    obtain ⟨z2, k2, t2⟩ := h2 _ b _ z1 _ _ _ l t1 (show n a w1 = some (d, fr, w') from e1)
    exact ⟨z2, by simp [eAnd, k1, k2], t2⟩
  | false =>
    cases e1
    exact ⟨z1, by simp [eAnd, k1], t1⟩
theorem dr_or {m n m' n' : EM} (h1 : DrE m m') (h2 : DrE n n') : DrE (eOr m n) (eOr m' n') := fun a b w z d fr w' l t e => by
  obtain ⟨⟨d1, w1⟩, q1, e1⟩ := obind e
  obtain ⟨z1, k1, t1⟩ := dr_ce h1 _ b _ z _ _ l t q1
  cases d1 with
  | false =>
    obtain ⟨z2, k2, t2⟩ := h2 _ b _ z1 _ _ _ l t1 (show n a w1 = some (d, fr, w') from e1)
    exact ⟨z2, by simp [eOr, k1, k2], t2⟩
  | true =>
    cases e1
    exact ⟨z1, by simp [eOr, k1], t1⟩
theorem dr_not {m m' : EM} (h1 : DrE m m') : DrE (eNot m) (eNot m') := fun a b w z d fr w' l t e => by
  obtain ⟨⟨d1, w1⟩, q, e1⟩ := omap e
  obtain ⟨z1, k, t1⟩ := dr_ce h1 _ b _ z _ _ l t q
  cases e1
  exact ⟨z1, by simp [eNot, k], t1⟩
def DrP (m m' : PM) : Prop := ∀ a b w z d w', Le a b → Mt w z → m a w = some (d, w') → ∃ z', m' b z = some (d, z') ∧ Mt w' z'
theorem PuP.dr {m : PM} (h : PuP m) : DrP m m := fun a b w z d w' l t e => by obtain ⟨rfl, k⟩ := h a b w z d w' l e; exact ⟨z, k, t⟩
theorem dr_pso {m m' : OM} (h : DrO m m') : DrP (pSo m) (pSo m') := fun a b w z d w' l t e => by
  obtain ⟨⟨d1, w1⟩, q, e1⟩ := obind e
  obtain ⟨z1, k, t1⟩ := h _ b _ z _ _ l t q
  cases d1 with
  | int i => cases e1; exact ⟨z1, by simp [pSo, k], t1⟩
  | _ => cases e1
theorem dr_cut {m m' : OM} {p q p' q' : PM} (h1 : DrO m m') (h2 : DrP p p') (h3 : DrP q q') : DrE (eCut m p q) (eCut m' p' q') := fun a b w z d fr w' l t e => by
  obtain ⟨⟨d1, w1⟩, q1, e1⟩ := obind e
  obtain ⟨z1, k1, t1⟩ := h1 _ b _ z _ _ l t q1
  obtain ⟨⟨d2, w2⟩, q2, e2⟩ := obind e1
  obtain ⟨z2, k2, t2⟩ := h2 _ b _ z1 _ _ l t1 q2
  obtain ⟨⟨d3, w3⟩, q3, e3⟩ := obind e2
  obtain ⟨z3, k3, t3⟩ := h3 _ b _ z2 _ _ l t2 q3
  obtain ⟨r, q4, e4⟩ := omap e3
  cases e4
  exact ⟨z3, by simp only at q4; simp [eCut, k1, k2, k3, q4], t3⟩
theorem dr_rg2 {m m' : AM} (h : DrA m m') : DrI (iRg2 m) (iRg2 m') := fun a b w z d w' l t e => by
  obtain ⟨⟨d1, w1⟩, q, e1⟩ := obind e
  obtain ⟨z1, k, t1⟩ := h _ b _ z _ _ l t q
  simp only at e1
  split at e1
  · split at e1
    · rename_i q2
      cases e1
      exact ⟨z1, by unfold iRg2; rw [k]; simp [q2], t1⟩
    · cases e1
  · cases e1
theorem dr_rg3 {m m' : AM} (h : DrA m m') : DrI (iRg3 m) (iRg3 m') := fun a b w z d w' l t e => by
  obtain ⟨⟨d1, w1⟩, q, e1⟩ := obind e
  obtain ⟨z1, k, t1⟩ := h _ b _ z _ _ l t q
  simp only at e1
  split at e1
  · split at e1
    · rename_i hl; cases e1; exact ⟨z1, by unfold iRg3; rw [k]; simp only [Option.bind_some]; rw [if_pos hl], t1⟩
    · cases e1
  · cases e1
theorem dr_enu {m m' : AM} (h : DrA m m') : DrI (iEnu m) (iEnu m') := fun a b w z d w' l t e => by
  obtain ⟨⟨d1, w1⟩, q, e1⟩ := obind e
  obtain ⟨z1, k, t1⟩ := h _ b _ z _ _ l t q
  simp only at e1
  split at e1
  · split at e1
    · rename_i hl; cases e1; exact ⟨z1, by unfold iEnu; rw [k]; simp [hl], t1⟩
    · cases e1
  · split at e1
    · rename_i hl; cases e1; exact ⟨z1, by unfold iEnu; rw [k]; simp [hl], t1⟩
    · cases e1
  · cases e1
theorem dr_zip {m m' : AM} (h : DrA m m') : DrI (iZp m) (iZp m') := fun a b w z d w' l t e => by
  obtain ⟨⟨d1, w1⟩, q, e1⟩ := obind e
  obtain ⟨z1, k, t1⟩ := h _ b _ z _ _ l t q
  obtain ⟨r, q2, e2⟩ := omap e1
  cases e2
  exact ⟨z1, by simp only at q2; simp [iZp, k, q2], t1⟩
theorem dr_rev {m m' : EM} (h : DrE m m') : DrI (iRev' m) (iRev' m') := fun a b w z d w' l t e => by
  obtain ⟨⟨d1, f1, w1⟩, q, e1⟩ := obind e
  obtain ⟨z1, k, t1⟩ := h _ b _ z _ _ _ l t q
  cases d1 with
  | lst xs => simp only at e1; split at e1; · (rename_i hl; cases e1; exact ⟨z1, by unfold iRev'; rw [k]; simp [hl], t1⟩)
              · cases e1
  | kst xs => simp only at e1; split at e1; · (rename_i hl; cases e1; exact ⟨z1, by unfold iRev'; rw [k]; simp [hl], t1⟩)
              · cases e1
  | tup xs => simp only at e1; split at e1; · (rename_i hl; cases e1; exact ⟨z1, by unfold iRev'; rw [k]; simp [hl], t1⟩)
              · cases e1
  | _ => cases e1
theorem dr_compL2 {b : BM} {c c' : TM} {it it' : IM} {vs : List Nat} {b1 : BM} {c1 c1' : TM} {m m' : EM} (hb : PuB b) (hc : DrT c c') (hi : DrI it it') (hb1 : PuB b1) (hc1 : DrT c1 c1') (hm : DrE m m') {x y : Env'} (l : Le x y) : ∀ (ds : List D) (w z : Int) (r : List D) (w' : Int), Mt w z → compL2 b c it vs b1 c1 m x ds w = some (r, w') → ∃ z', compL2 b c' it' vs b1 c1' m' y ds z = some (r, z') ∧ Mt w' z'
  | [], w, z, r, w', t, e => by
    simp only [compL2, Option.some.injEq, Prod.mk.injEq] at e
    obtain ⟨rfl, rfl⟩ := e
    exact ⟨z, rfl, t⟩
  | d :: ds, w, z, r, w', t, e => by
    simp only [compL2] at e
    obtain ⟨x1, q1, e1⟩ := obind e
    obtain ⟨y1, k1, l1⟩ := hb _ _ y _ l q1
    obtain ⟨⟨v, w1⟩, q2, e2⟩ := obind e1
    obtain ⟨z2, k2, t2⟩ := hc _ y1 _ z _ _ l1 t q2
    cases v with
    | true =>
      rw [if_pos rfl] at e2
      obtain ⟨⟨v, w2⟩, q3, e3⟩ := obind e2
      obtain ⟨z3, k3, t3⟩ := hi _ y1 _ z2 _ _ l1 t2 q3
      obtain ⟨⟨r1, w3⟩, q4, e4⟩ := obind e3
      obtain ⟨z4, k4, t4⟩ := dr_compL hb1 hc1 hm (l1.wipe vs) _ _ z3 _ _ t3 q4
      obtain ⟨⟨r2, w4⟩, q5, e5⟩ := omap e4
      obtain ⟨z5, k5, t5⟩ := dr_compL2 hb hc hi hb1 hc1 hm l ds _ z4 _ _ t4 q5
      cases e5
      exact ⟨z5, by simp [compL2, k1, k2, k3, k4, k5], t5⟩
    | false =>
      rw [if_neg (by simp)] at e2
      obtain ⟨z4, k4, t4⟩ := dr_compL2 hb hc hi hb1 hc1 hm l ds _ z2 _ _ t2 e2
      exact ⟨z4, by simp [compL2, k1, k2, k4], t4⟩
theorem dr_comp2 {vs : List Nat} {it it' : IM} {b : BM} {c c' : TM} {it1 it1' : IM} {vs1 : List Nat} {b1 : BM} {c1 c1' : TM} {m m' : EM} (hi : DrI it it') (hb : PuB b) (hc : DrT c c') (hi1 : DrI it1 it1') (hb1 : PuB b1) (hc1 : DrT c1 c1') (hm : DrE m m') : DrE (eComp2 vs it b c it1 vs1 b1 c1 m) (eComp2 vs it' b c' it1' vs1 b1 c1' m') := fun x y w z d fr w' l t e => by
  obtain ⟨⟨ds, w1⟩, q1, e1⟩ := obind e
  obtain ⟨z1, k1, t1⟩ := hi _ y _ z _ _ l t q1
  obtain ⟨⟨r, w2⟩, q2, e2⟩ := obind e1
  obtain ⟨z2, k2, t2⟩ := dr_compL2 hb hc hi1 hb1 hc1 hm (l.wipe vs) ds _ z1 _ _ t1 q2
  by_cases hl : r.length ≤ lim
  · rw [if_pos hl] at e2
    cases e2
    exact ⟨z2, by simp only [eComp2, k1, k2, Option.bind_some]; rw [if_pos hl], t2⟩
  · rw [if_neg hl] at e2; cases e2
theorem drs_ext {i : Nat} {m m' : OM} (h : DrO m m') : DrS (sExt i m) (sExt i m') := fun a b w z l t => by
  unfold sExt
  cases q : a[i]? with
  | none => trivial
  | some s =>
    cases s with
    | un => trivial
    | sh d => trivial
    | ow d =>
      rw [l.ow q]
      cases d with
      | lst xs =>
        simp only
        cases q2 : m a w with
        | none => trivial
        | some r =>
          obtain ⟨e, w1⟩ := r
          obtain ⟨z1, k, t1⟩ := h a b w z e w1 l t q2
          rw [k]
          cases e with
          | lst ys =>
            simp only
            by_cases hl : xs.length + ys.length ≤ lim
            · rw [if_pos hl, if_pos hl]; exact ⟨_, z1, rfl, l.set i _, t1⟩
            · rw [if_neg hl]; trivial
          | _ => trivial
      | _ => trivial
theorem drs_setIx {i : Nat} {mk mk' : OM} {m m' : EM} (hk : DrO mk mk') (h : DrE m m') : DrS (sSetIx i mk m) (sSetIx i mk' m') := fun a b w z l t => by
  unfold sSetIx
  cases q2 : m a w with
  | none => trivial
  | some r =>
    obtain ⟨e, fr, w1⟩ := r
    obtain ⟨z1, k, t1⟩ := h a b w z e fr w1 l t q2
    rw [k]
    simp only
    cases q : a[i]? with
    | none => trivial
    | some s =>
      cases s with
      | un => trivial
      | sh d => trivial
      | ow d =>
        rw [l.ow q]
        cases d with
        | lst xs =>
          simp only
          cases q3 : mk a w1 with
          | none => simp only; trivial
          | some r =>
            obtain ⟨j, w2⟩ := r
            obtain ⟨z2, k, t2⟩ := hk a b _ z1 j w2 l t1 q3
            rw [k]
            cases j with
            | int j =>
              simp only
              cases ixN xs.length j with
              | none => trivial
              | some n => exact ⟨_, z2, rfl, l.set i _, t2⟩
            | _ => trivial
        | _ => trivial
/-- G answers fast what G' answers, and draws nothing -/
def RfF (G G' : List D → Int → ER) : Prop := ∀ ds w z d fr w', G ds w = some (d, fr, w') → w' = w ∧ G' ds z = some (d, fr, z)
theorem RfF.dr {G G' : List D → Int → ER} (h : RfF G G') : DrF G G' := fun ds w z d fr w' t e => by obtain ⟨rfl, k⟩ := h ds w z d fr w' e; exact ⟨z, k, t⟩
theorem drf_zero {G : List D → Int → ER} : DrF (fun _ _ => none) G := fun ds w z d fr w' t e => by cases e
end Tw

/-! fast answers: the same -/
namespace Tw
open PySem PySem.Spec PyProof.Rows L2
theorem fNe_int (i j : Int) : fNe (.int i) (.int j) = some (!decide (i = j)) := by
  show some (!(cI i j == .eq)) = _
  rw [← (cI_ok i j).1]; rfl
theorem fEq_int (i j : Int) : fEq (.int i) (.int j) = some (decide (i = j)) := by
  show some (cI i j == .eq) = _
  rw [← (cI_ok i j).1]; rfl
theorem fEq_strSelf {x : Str} (h : okL x.cps.toList = true) : fEq (.str x) (.str x) = some true := by
  show (match (if okL x.cps.toList && okL x.cps.toList then some (cN x.cps.toList x.cps.toList) else none) with | some o => some (o == Ordering.eq) | none => dEq (.str x) (.str x)) = _
  rw [h]
  have : cN x.cps.toList x.cps.toList = Ordering.eq := ((cN_ok _ _).1).mpr rfl
  rw [this]; rfl
/-- the two are one datum: whole numbers, texts, truth values, None, tuples and lists of these -/
def sqL (f : D → D → Bool) : List D → List D → Bool
  | [], [] => true
  | x :: xs, y :: ys => bif f x y then sqL f xs ys else false
  | _, _ => false
def sq : Nat → D → D → Bool
  | _, .int i, .int j => match cI i j with
    | .eq => true
    | _ => false
  | _, .str x, .str y => bif okL x.cps.toList then (match cN x.cps.toList y.cps.toList with
    | .eq => true
    | _ => false) else false
  | _, .bl b, .bl c => b == c
  | _, .non, .non => true
  | n + 1, .tup xs, .tup ys => bif Nat.ble xs.length 16777216 then sqL (sq n) xs ys else false
  | n + 1, .lst xs, .lst ys => bif Nat.ble xs.length 16777216 then sqL (sq n) xs ys else false
  | _, _, _ => false
/-- of such a kind, to such a depth -/
def gd : Nat → D → Prop
  | _, .int _ => True
  | _, .str x => okL x.cps.toList = true
  | _, .bl _ => True
  | _, .non => True
  | n + 1, .tup xs => xs.length ≤ 16777216 ∧ ∀ x ∈ xs, gd n x
  | n + 1, .lst xs => xs.length ≤ 16777216 ∧ ∀ x ∈ xs, gd n x
  | _, _ => False
theorem sqL_ok {f : D → D → Bool} {P : D → Prop} (h : ∀ x y, f x y = true → x = y ∧ P x) : ∀ xs ys, sqL f xs ys = true → xs = ys ∧ ∀ x ∈ xs, P x
  | [], [], _ => ⟨rfl, fun x hx => nomatch hx⟩
  | [], _ :: _, q => by simp [sqL] at q
  | _ :: _, [], q => by simp [sqL] at q
  | x :: xs, y :: ys, q => by
    unfold sqL at q
    cases e : f x y with
    | false => rw [e] at q; cases q
    | true =>
      rw [e] at q
      obtain ⟨h1, h2⟩ := h x y e
      obtain ⟨h3, h4⟩ := sqL_ok h xs ys q
      exact ⟨by rw [h1, h3], fun z hz => by rcases List.mem_cons.mp hz with rfl | hz; exact h2; exact h4 z hz⟩
theorem sq_int {i j : Int} (h : (match cI i j with | .eq => true | _ => false) = true) : i = j := by
  cases q : cI i j with
  | eq => exact (cI_ok i j).2.2.2 q
  | lt => rw [q] at h; cases h
  | gt => rw [q] at h; cases h
theorem sq_str {x y : Str} (h : (bif okL x.cps.toList then (match cN x.cps.toList y.cps.toList with | .eq => true | _ => false) else false) = true) : x = y ∧ okL x.cps.toList = true := by
  cases q0 : okL x.cps.toList with
  | false => rw [q0] at h; cases h
  | true =>
    rw [q0] at h
    cases q : cN x.cps.toList y.cps.toList with
    | eq => exact ⟨str_eq ((cN_ok _ _).1.mp q), rfl⟩
    | lt => rw [q] at h; cases h
    | gt => rw [q] at h; cases h
theorem sq_ok : ∀ (n : Nat) (d e : D), sq n d e = true → d = e ∧ gd n d := by
  intro n
  induction n with
  | zero =>
    intro d e h
    cases d <;> cases e <;> first
      | exact ⟨congrArg D.int (sq_int (by simpa only [sq] using h)), by simp [gd]⟩
      | (obtain ⟨h1, h2⟩ := sq_str (by simpa only [sq] using h); exact ⟨by rw [h1], by simpa [gd] using h2⟩)
      | (simp only [sq, beq_iff_eq] at h; exact ⟨by rw [h], by simp [gd]⟩)
      | (clear h; exact ⟨rfl, trivial⟩)
      | (simp only [sq] at h; cases h; done)
      | (simp [sq] at h; done)
  | succ n ih =>
    intro d e h
    have key : ∀ xs ys : List D, (bif Nat.ble xs.length 16777216 then sqL (sq n) xs ys else false) = true → xs = ys ∧ xs.length ≤ 16777216 ∧ ∀ x ∈ xs, gd n x := fun xs ys q => by
      cases e1 : Nat.ble xs.length 16777216 with
      | false => rw [e1] at q; cases q
      | true =>
        rw [e1] at q
        obtain ⟨h1, h2⟩ := sqL_ok ih xs ys q
        exact ⟨h1, Nat.le_of_ble_eq_true e1, h2⟩
    cases d <;> cases e <;> first
      | exact ⟨congrArg D.int (sq_int (by simpa only [sq] using h)), by simp [gd]⟩
      | (obtain ⟨h1, h2⟩ := sq_str (by simpa only [sq] using h); exact ⟨by rw [h1], by simpa [gd] using h2⟩)
      | (obtain ⟨h1, h2⟩ := key _ _ (by simpa only [sq] using h); exact ⟨by rw [h1], by simpa only [gd] using h2⟩)
      | (simp only [sq, beq_iff_eq] at h; exact ⟨by rw [h], by simp [gd]⟩)
      | (clear h; exact ⟨rfl, trivial⟩)
      | (simp only [sq] at h; cases h; done)
      | (simp [sq] at h; done)
theorem compL_none {b : BM} {c : TM} {m : EM} {env : Env'} {z : Int} : ∀ {ds : List D}, (∀ d ∈ ds, ∃ env1, b d env = some env1 ∧ c env1 z = some (false, z)) → compL b c m env ds z = some ([], z)
  | [], _ => rfl
  | d :: ds, h => by
    obtain ⟨env1, h1, h2⟩ := h d (by simp)
    have ih := compL_none (b := b) (c := c) (m := m) (env := env) (z := z) (ds := ds) fun d hd => h d (by simp [hd])
    simp [compL, h1, h2, ih]
theorem rngOk_l {xs : List D} (h : xs.length ≤ 16777216) : rngOk 0 (xs.length : Int) = true := by
  unfold rngOk
  generalize xs.length = n at h
  rw [decide_eq_true (by omega), decide_eq_true (by omega), decide_eq_true (by omega), decide_eq_true (by omega), decide_eq_true (by show ((n : Int) - 0).toNat ≤ 16777216; omega)]
  rfl
def B_same (c__law_same : List D → Int → ER) : SM := (sSeq (sIf (cOr (cE (mUn (dIsi "list") (oV 1))) (cE (mUn (dIsi "tuple") (oV 1)))) (sSeq (sIf (cOr (cAnd (cE (mUn (dIsi "list") (oV 1))) (cNot (cE (mUn (dIsi "list") (oV 0))))) (cAnd (cE (mUn (dIsi "tuple") (oV 1))) (cNot (cE (mUn (dIsi "tuple") (oV 0)))))) (sRet (eC (.bl false))) sNil) (sSeq (sIf (cCmp fNe (oE (eBlt dLen (aConsO (oV 0) aNil))) (oE (eBlt dLen (aConsO (oV 1) aNil)))) (sRet (eC (.bl false))) sNil) (sRet (eB (cCmp fEq (oE (eComp [2] (iRg1 (aCons (eBlt dLen (aConsO (oV 1) aNil)) aNil)) (bName 2) (cNot (cE (eCall c__law_same (aCons (mBin dIx (oV 0) (oV 2)) (aCons (mBin dIx (oV 1) (oV 2)) aNil))))) (eV 2))) (oE (eLst aNil))))))) sNil) (sSeq (sIf (cE (mUn (dIsi "dict") (oV 1))) (sSeq (sIf (cOr (cNot (cE (mUn (dIsi "dict") (oV 0)))) (cCmp fNe (oE (eBlt dLen (aConsO (oV 0) aNil))) (oE (eBlt dLen (aConsO (oV 1) aNil))))) (sRet (eC (.bl false))) sNil) (sRet (eB (cCmp fEq (oE (eComp [3] (iAny (oV 1)) (bName 3) (cOr (cCmp fNotIn (oV 3) (oV 0)) (cNot (cE (eCall c__law_same (aCons (mBin dIx (oV 0) (oV 3)) (aCons (mBin dIx (oV 1) (oV 3)) aNil)))))) (eV 3))) (oE (eLst aNil)))))) sNil) (sSeq (sIf (cCmp dIsN (oV 1) (oE (eC .non))) (sRet (eB (cCmp dIsN (oV 0) (oE (eC .non))))) sNil) (sSeq (sIf (cE (mUn (dIsi "bool") (oV 1))) (sRet (eAnd (mUn (dIsi "bool") (oV 0)) (eB (cCmp fEq (oV 0) (oV 1))))) sNil) (sSeq (sIf (cE (mUn (dIsi "str") (oV 1))) (sRet (eAnd (mUn (dIsi "str") (oV 0)) (eB (cCmp fEq (oV 0) (oV 1))))) sNil) (sRet (eAnd (mUn (dIsi "int") (oV 0)) (eAnd (eNot (mUn (dIsi "bool") (oV 0))) (eB (cCmp fEq (oV 0) (oV 1)))))))))))
def isYes (m : SM) (d : D) : Prop := ∀ z, ∃ e, m [.sh d, .sh d, .un, .un] z = .rt (.bl true) false e z
theorem tyI (i : Int) : dIsi "list" (.int i) = some (.bl false, false) ∧ dIsi "tuple" (.int i) = some (.bl false, false) ∧ dIsi "dict" (.int i) = some (.bl false, false) ∧ dIsi "bool" (.int i) = some (.bl false, false) ∧ dIsi "str" (.int i) = some (.bl false, false) ∧ dIsi "int" (.int i) = some (.bl true, false) := ⟨rfl, rfl, rfl, rfl, rfl, rfl⟩
theorem tyS (i : Str) : dIsi "list" (.str i) = some (.bl false, false) ∧ dIsi "tuple" (.str i) = some (.bl false, false) ∧ dIsi "dict" (.str i) = some (.bl false, false) ∧ dIsi "bool" (.str i) = some (.bl false, false) ∧ dIsi "str" (.str i) = some (.bl true, false) := ⟨rfl, rfl, rfl, rfl, rfl⟩
theorem tyB (i : Bool) : dIsi "list" (.bl i) = some (.bl false, false) ∧ dIsi "tuple" (.bl i) = some (.bl false, false) ∧ dIsi "dict" (.bl i) = some (.bl false, false) ∧ dIsi "bool" (.bl i) = some (.bl true, false) := ⟨rfl, rfl, rfl, rfl⟩
theorem tyN : dIsi "list" .non = some (.bl false, false) ∧ dIsi "tuple" .non = some (.bl false, false) ∧ dIsi "dict" .non = some (.bl false, false) := ⟨rfl, rfl, rfl⟩
theorem tyL (i : List D) : dIsi "list" (.lst i) = some (.bl true, false) ∧ dIsi "tuple" (.lst i) = some (.bl false, false) := ⟨rfl, rfl⟩
theorem tyT (i : List D) : dIsi "list" (.tup i) = some (.bl false, false) ∧ dIsi "tuple" (.tup i) = some (.bl true, false) := ⟨rfl, rfl⟩
theorem atI_get {xs : List D} {k : Nat} (h : k < xs.length) : atI xs (k : Int) = some xs[k] := by
  unfold L2.atI ixN
  rw [if_pos (by omega), if_pos (by omega)]
  simp [List.getElem?_eq_getElem h]
theorem same_seq {c : List D → Int → ER} {d : D} {xs : List D} (hd : d = .lst xs ∨ d = .tup xs) (hl : xs.length ≤ 16777216) (hc : ∀ x ∈ xs, ∀ z, c [x, x] z = some (.bl true, false, z)) : isYes (B_same c) d := fun z => by
  have hlen : dLen [d] = some (.int xs.length, false) := by rcases hd with rfl | rfl <;> rfl
  have hix : ∀ k, (h : k < xs.length) → dIx d (.int (k : Int)) = some (xs[k], false) := fun k h => by
    rcases hd with rfl | rfl <;> (show (atI xs (k : Int)).map (·, false) = _; rw [atI_get h]; rfl)
  have hcomp : eComp [2] (iRg1 (aCons (eBlt dLen (aConsO (oV 1) aNil)) aNil)) (bName 2) (cNot (cE (eCall c (aCons (mBin dIx (oV 0) (oV 2)) (aCons (mBin dIx (oV 1) (oV 2)) aNil))))) (eV 2) [.sh d, .sh d, .un, .un] z = some (.lst [], true, z) := by
    have a1 : aCons (eBlt dLen (aConsO (oV 1) aNil)) aNil [.sh d, .sh d, .un, .un] z = some ([.int xs.length], z) := by
      simp [aCons, eBlt, aConsO, oV, aNil, hlen]
    have a2 := iRg1_of (ds := rngD 0 xs.length) a1 (rngOk_l hl) (by rw [Int.toNat_natCast])
    have a3 : compL (bName 2) (cNot (cE (eCall c (aCons (mBin dIx (oV 0) (oV 2)) (aCons (mBin dIx (oV 1) (oV 2)) aNil))))) (eV 2) (wipeE [.sh d, .sh d, .un, .un] [2]) (rngD 0 xs.length) z = some ([], z) := by
      refine compL_none fun e he => ?_
      obtain ⟨i, h1⟩ := List.getElem?_of_mem he
      obtain ⟨hi, rfl⟩ := rng_get h1
      refine ⟨[.sh d, .sh d, .sh (.int (0 + (i : Int))), .un], rfl, ?_⟩
      have h0 : (0 : Int) + (i : Int) = (i : Int) := by omega
      rw [h0]
      have := hc xs[i] (List.getElem_mem hi) z
      simp [cNot, cE, eCall, aCons, mBin, oV, hix i hi, aNil, this]
    unfold eComp
    rw [a2]
    simp only [Option.bind_some]
    rw [a3]
    rfl
  have l0 : eLst aNil [.sh d, .sh d, .un, .un] z = some (.lst [], true, z) := rfl
  have e0 : fEq (.lst []) (.lst []) = some true := rfl
  have fin : (sRet (eB (cCmp fEq (oE (eComp [2] (iRg1 (aCons (eBlt dLen (aConsO (oV 1) aNil)) aNil)) (bName 2) (cNot (cE (eCall c (aCons (mBin dIx (oV 0) (oV 2)) (aCons (mBin dIx (oV 1) (oV 2)) aNil))))) (eV 2))) (oE (eLst aNil))))) [.sh d, .sh d, .un, .un] z = .rt (.bl true) false [.sh d, .sh d, .un, .un] z := by
    simp [sRet, eB, cCmp, oE, hcomp, l0, e0]
  refine ⟨[.sh d, .sh d, .un, .un], ?_⟩
  rcases hd with rfl | rfl
  · simp only [B_same, sSeq, sIf, cOr, cAnd, cNot, cE, mUn, oV, List.getElem?_cons_zero, List.getElem?_cons_succ, Option.bind_some, Option.map_some, tyL, if_true, if_false, Bool.not_true, Bool.not_false, reduceCtorEq, cCmp, oE, eBlt, aConsO, aNil, hlen, fNe_int, decide_true, sNil, fin, Bool.false_eq_true]
  · simp only [B_same, sSeq, sIf, cOr, cAnd, cNot, cE, mUn, oV, List.getElem?_cons_zero, List.getElem?_cons_succ, Option.bind_some, Option.map_some, tyT, if_true, if_false, Bool.not_true, Bool.not_false, reduceCtorEq, cCmp, oE, eBlt, aConsO, aNil, hlen, fNe_int, decide_true, sNil, fin, Bool.false_eq_true]
theorem same_int {c : List D → Int → ER} (i : Int) : isYes (B_same c) (.int i) := fun z => by
  refine ⟨[.sh (.int i), .sh (.int i), .un, .un], ?_⟩
  simp only [B_same, sSeq, sIf, cOr, cAnd, cNot, cE, mUn, oV, List.getElem?_cons_zero, List.getElem?_cons_succ, Option.bind_some, Option.map_some, tyI, if_true, if_false, Bool.not_true, Bool.not_false, reduceCtorEq, cCmp, oE, eC, dIsN, sNil, sRet, eAnd, eNot, eB, fEq_int, decide_true, Bool.false_eq_true]
theorem same_str {c : List D → Int → ER} {x : Str} (h : okL x.cps.toList = true) : isYes (B_same c) (.str x) := fun z => by
  refine ⟨[.sh (.str x), .sh (.str x), .un, .un], ?_⟩
  simp only [B_same, sSeq, sIf, cOr, cAnd, cNot, cE, mUn, oV, List.getElem?_cons_zero, List.getElem?_cons_succ, Option.bind_some, Option.map_some, tyS, if_true, if_false, Bool.not_true, Bool.not_false, reduceCtorEq, cCmp, oE, eC, dIsN, sNil, sRet, eAnd, eNot, eB, fEq_strSelf h, decide_true, Bool.false_eq_true]
theorem same_bl {c : List D → Int → ER} (b : Bool) : isYes (B_same c) (.bl b) := fun z => by
  have e : fEq (.bl b) (.bl b) = some true := by cases b <;> rfl
  refine ⟨[.sh (.bl b), .sh (.bl b), .un, .un], ?_⟩
  simp only [B_same, sSeq, sIf, cOr, cAnd, cNot, cE, mUn, oV, List.getElem?_cons_zero, List.getElem?_cons_succ, Option.bind_some, Option.map_some, tyB, if_true, if_false, Bool.not_true, Bool.not_false, reduceCtorEq, cCmp, oE, eC, dIsN, sNil, sRet, eAnd, eNot, eB, e, decide_true, Bool.false_eq_true]
theorem same_non {c : List D → Int → ER} : isYes (B_same c) .non := fun z => by
  refine ⟨[.sh .non, .sh .non, .un, .un], ?_⟩
  simp only [B_same, sSeq, sIf, cOr, cAnd, cNot, cE, mUn, oV, List.getElem?_cons_zero, List.getElem?_cons_succ, Option.bind_some, Option.map_some, tyN, if_true, if_false, Bool.not_true, Bool.not_false, reduceCtorEq, cCmp, oE, eC, dIsN, sNil, sRet, eAnd, eNot, eB, decide_true, Bool.false_eq_true]
/-- F is what _law_same computes, with so many calls within one another -/
theorem same_ok {F : Nat → List D → Int → ER} (hF : ∀ n, F (n + 1) = runDef 2 2 (B_same (F n))) : ∀ (n j : Nat) (d : D), gd n d → ∀ z, F (n + 1 + j) [d, d] z = some (.bl true, false, z) := by
  have run : ∀ (n : Nat) (d : D), isYes (B_same (F n)) d → ∀ z, F (n + 1) [d, d] z = some (.bl true, false, z) := fun n d h z => by
    obtain ⟨e, he⟩ := h z
    rw [hF]
    show (match B_same (F n) [.sh d, .sh d, .un, .un] z with | .rt d fr _ z' => some (d, fr, z') | .nx _ z' => some (.non, false, z') | _ => none) = _
    rw [he]
  intro n
  induction n with
  | zero =>
    intro j d h z
    rw [show 0 + 1 + j = j + 1 from by omega]
    cases d <;> simp only [gd] at h <;> first
      | exact run j _ (same_int _) z
      | exact run j _ (same_str h) z
      | exact run j _ (same_bl _) z
      | exact run j _ same_non z
      | exact h.elim
  | succ n ih =>
    intro j d h z
    rw [show n + 1 + 1 + j = (n + 1 + j) + 1 from by omega]
    cases d with
    | int i => exact run _ _ (same_int _) z
    | str x => exact run _ _ (same_str h) z
    | bl b => exact run _ _ (same_bl _) z
    | non => exact run _ _ same_non z
    | tup xs => exact run _ _ (same_seq (.inr rfl) h.1 fun x hx z => ih j x (h.2 x hx) z) z
    | lst xs => exact run _ _ (same_seq (.inl rfl) h.1 fun x hx z => ih j x (h.2 x hx) z) z
    | _ => exact h.elim
def xSame : List D → Int → ER
  | [d, e], z => bif sq 8 d e then some (.bl true, false, z) else none
  | _, _ => none
theorem xSame_ok {F : Nat → List D → Int → ER} (hF : ∀ n, F (n + 1) = runDef 2 2 (B_same (F n))) (j : Nat) : RfF xSame (F (9 + j)) := fun ds w z d fr w' e => by
  unfold xSame at e
  split at e
  · rename_i d1 e1
    cases q : sq 8 d1 e1 with
    | false => rw [q] at e; cases e
    | true =>
      rw [q] at e
      simp only [cond_true, Option.some.injEq, Prod.mk.injEq] at e
      obtain ⟨rfl, rfl, rfl⟩ := e
      obtain ⟨rfl, g⟩ := sq_ok 8 _ _ q
      exact ⟨rfl, same_ok hF 8 j d1 g z⟩
  · cases e
end Tw

/-! fast answers: Lyndon rows -/
namespace Tw
open PySem PySem.Spec PyProof.Rows L2
theorem fLt_of {r c : D} {o : Ordering} (h : cF 60 r c = some o) : fLt r c = some (o == .lt) := by unfold fLt; rw [h]
theorem fLe_of {r c : D} {o : Ordering} (h : cF 60 r c = some o) : fLe c r = some (!(o == .lt)) := by
  have t := cF_ok _ _ _ _ h
  unfold fLe
  cases q : cF 60 c r with
  | none =>
    simp only
    unfold dLeD
    rw [if_pos (by unfold ordOk; rw [show plain c = true from t.p2, show plain r = true from t.p1, t.a2]; cases c <;> first | rfl | (cases r <;> simp [cF] at h)), t.l1]
  | some o' =>
    have t' := cF_ok _ _ _ _ q
    simp only
    rw [← t'.l2, t.l1]
theorem compL_filter {b : BM} {c : TM} {m : EM} {env : Env'} {z : Int} {f : D → Bool} : ∀ {ds : List D}, (∀ d ∈ ds, ∃ env1 fr, b d env = some env1 ∧ c env1 z = some (f d, z) ∧ m env1 z = some (d, fr, z)) → compL b c m env ds z = some (ds.filter f, z)
  | [], _ => rfl
  | d :: ds, h => by
    obtain ⟨env1, fr, h1, h2, h3⟩ := h d (by simp)
    have ih := compL_filter (b := b) (c := c) (m := m) (env := env) (z := z) (f := f) (ds := ds) fun d hd => h d (by simp [hd])
    cases q : f d with
    | true => rw [q] at h2; simp [compL, h1, h2, h3, ih, q]
    | false => rw [q] at h2; simp [compL, h1, h2, ih, q]
theorem fEq_nil {xs : List D} (h : xs.all isI = true) : fEq (.lst xs) (.lst []) = some xs.isEmpty := by
  cases xs with
  | nil => rfl
  | cons y ys =>
    have hp : (y :: ys).all (plainN 59) = true := by
      rw [List.all_eq_true] at h ⊢
      exact fun x hx => isI_pl (h x hx)
    show (match (if (y :: ys).all (plainN 59) then some Ordering.gt else none) with | some o => some (o == Ordering.eq) | none => _) = _
    rw [if_pos hp]; rfl
theorem rngOk_12 {n : Nat} (h : n ≤ 16777216) : rngOk 1 (n : Int) = true := by
  unfold rngOk
  rw [decide_eq_true (by omega), decide_eq_true (by omega), decide_eq_true (by omega), decide_eq_true (by omega), decide_eq_true (by show ((n : Int) - 1).toNat ≤ 16777216; omega)]
  rfl
theorem iRg2_of {m : AM} {env : Env'} {z w i j : Int} {ds : List D} (h : m env z = some ([.int i, .int j], w)) (hr : rngOk i j = true) (hd : rngD i (j - i).toNat = ds) : iRg2 m env z = some (ds, w) := by
  unfold iRg2
  rw [h]
  simp [hr, hd]
/-- the walk over 1 .. n - 1, and whether nothing is kept -/
theorem lyn_comp {r : D} {n : Nat} {s : Slot} {t : TM} {z : Int} {f : Nat → Bool} (hlen : dLen [r] = some (.int n, false)) (hn : n ≤ 16777216) (ht : ∀ k : Nat, 1 ≤ k → k < n → t [.sh r, .sh (.int k)] z = some (!f k, z)) :
    (cCmp fEq (oE (eComp [1] (iRg2 (aCons (eC (.int 1)) (aCons (eBlt dLen (aConsO (oV 0) aNil)) aNil))) (bName 1) t (eV 1))) (oE (eLst aNil))) [.sh r, s] z = some ((List.range (n - 1)).all (fun i => f (1 + i)), z) := by
  have a1 : (aCons (eC (.int 1)) (aCons (eBlt dLen (aConsO (oV 0) aNil)) aNil)) [.sh r, s] z = some ([.int 1, .int n], z) := by
    simp [aCons, eC, eBlt, aConsO, oV, aNil, hlen]
  have a2 := iRg2_of (ds := rngD 1 (n - 1)) a1 (rngOk_12 hn) (by rw [show ((n : Int) - 1).toNat = n - 1 from by omega])
  have a3 : compL (bName 1) t (eV 1) (wipeE [.sh r, s] [1]) (rngD 1 (n - 1)) z = some ((rngD 1 (n - 1)).filter (fun d => match d with | .int k => !f k.toNat | _ => false), z) := by
    refine compL_filter fun d hd => ?_
    obtain ⟨i, h1⟩ := List.getElem?_of_mem hd
    obtain ⟨hi, rfl⟩ := rng_get h1
    have e1 : (1 : Int) + (i : Int) = ((1 + i : Nat) : Int) := by omega
    rw [e1]
    refine ⟨[.sh r, .sh (.int ((1 + i : Nat) : Int))], false, rfl, ?_, rfl⟩
    rw [ht (1 + i) (by omega) (by omega)]
    simp only [Int.toNat_natCast]
  have a4 : eComp [1] (iRg2 (aCons (eC (.int 1)) (aCons (eBlt dLen (aConsO (oV 0) aNil)) aNil))) (bName 1) t (eV 1) [.sh r, s] z = some (.lst ((rngD 1 (n - 1)).filter (fun d => match d with | .int k => !f k.toNat | _ => false)), true, z) := by
    unfold eComp
    rw [a2]
    simp only [Option.bind_some]
    rw [a3]
    rfl
  have a5 : ((rngD 1 (n - 1)).filter (fun d => match d with | .int k => !f k.toNat | _ => false)).all isI = true := by
    rw [List.all_eq_true]
    intro d hd
    have hd := (List.mem_filter.mp hd).1
    obtain ⟨i, h1⟩ := List.getElem?_of_mem hd
    obtain ⟨hi, rfl⟩ := rng_get h1
    rfl
  have a6 : ((rngD 1 (n - 1)).filter (fun d => match d with | .int k => !f k.toNat | _ => false)).isEmpty = (List.range (n - 1)).all (fun i => f (1 + i)) := by
    rw [Bool.eq_iff_iff, List.isEmpty_iff, List.filter_eq_nil_iff, List.all_eq_true]
    constructor
    · intro h i hi
      have hi := List.mem_range.mp hi
      have := h (.int (1 + (i : Int))) (by unfold rngD; exact List.mem_map.mpr ⟨i, List.mem_range.mpr hi, rfl⟩)
      have e1 : ((1 : Int) + (i : Int)).toNat = 1 + i := by omega
      simpa [e1] using this
    · intro h d hd
      obtain ⟨i, h1⟩ := List.getElem?_of_mem hd
      obtain ⟨hi, rfl⟩ := rng_get h1
      have := h i (List.mem_range.mpr hi)
      have e1 : ((1 : Int) + (i : Int)).toNat = 1 + i := by omega
      simp [e1, this]
  have l0 : eLst aNil [.sh r, s] z = some (.lst [], true, z) := rfl
  simp only [cCmp, oE, a4, l0, Option.map_some, Option.bind_some, fEq_nil a5, a6]
def B_lyn : SM := (sSeq (sIf (cCmp fEq (oE (eBlt dLen (aConsO (oV 0) aNil))) (oE (eC (.int 0)))) (sRet (eC (.bl false))) sNil) (sRet (eB (cCmp fEq (oE (eComp [1] (iRg2 (aCons (eC (.int 1)) (aCons (eBlt dLen (aConsO (oV 0) aNil)) aNil))) (bName 1) (cNot (cCmp fLt (oV 0) (oE (eCut (oV 0) (pSo (oV 1)) pNo)))) (eV 1))) (oE (eLst aNil))))))
def B_lyn2 : SM := (sRet (eAnd (eB (cCmp fGt (oE (eBlt dLen (aConsO (oV 0) aNil))) (oE (eC (.int 0))))) (eB (cCmp fEq (oE (eComp [1] (iRg2 (aCons (eC (.int 1)) (aCons (eBlt dLen (aConsO (oV 0) aNil)) aNil))) (bName 1) (cCmp fLe (oE (eCut (oV 0) (pSo (oV 1)) pNo)) (oV 0)) (eV 1))) (oE (eLst aNil))))))
/-- a row, its length, what its rests are to it -/
structure Row (r : D) (n : Nat) (o : Nat → Ordering) : Prop where
  len : dLen [r] = some (.int n, false)
  le : n ≤ 16777216
  cut : ∀ k : Nat, 1 ≤ k → k < n → ∃ c fr, dCut r (some (k : Int)) none = some (c, fr) ∧ cF 60 r c = some (o k)
def lynO (n : Nat) (o : Nat → Ordering) : Bool := Nat.blt 0 n && (List.range (n - 1)).all fun i => o (1 + i) == .lt
theorem Row.lyn {r : D} {n : Nat} {o : Nat → Ordering} (h : Row r n o) (z : Int) : ∃ e, B_lyn [.sh r, .un] z = .rt (.bl (lynO n o)) false e z := by
  have ht : ∀ k : Nat, 1 ≤ k → k < n → (cNot (cCmp fLt (oV 0) (oE (eCut (oV 0) (pSo (oV 1)) pNo)))) [.sh r, .sh (.int k)] z = some (!(o k == .lt), z) := fun k h1 h2 => by
    obtain ⟨c, fr, hc, ho⟩ := h.cut k h1 h2
    simp [cNot, cCmp, oV, oE, eCut, pSo, pNo, hc, fLt_of ho]
  have hc := lyn_comp (s := .un) h.len h.le ht
  refine ⟨[.sh r, .un], ?_⟩
  by_cases h0 : n = 0
  · have hl := h.len
    subst h0
    simp [B_lyn, sSeq, sIf, cCmp, oE, eBlt, aConsO, oV, aNil, hl, eC, fEq_int, sRet, lynO, Nat.blt]; rfl
  · have hb : Nat.blt 0 n = true := by rw [nblt]; exact decide_eq_true (by omega)
    have s1 : (sIf (cCmp fEq (oE (eBlt dLen (aConsO (oV 0) aNil))) (oE (eC (.int 0)))) (sRet (eC (.bl false))) sNil) [.sh r, .un] z = .nx [.sh r, .un] z := by
      simp [sIf, cCmp, oE, eBlt, aConsO, oV, aNil, h.len, eC, fEq_int, h0, sNil]
    unfold B_lyn
    rw [sSeq, s1]
    simp only
    unfold sRet eB
    rw [hc]
    simp only [Option.map_some, lynO, hb, Bool.true_and]
theorem Row.lyn2 {r : D} {n : Nat} {o : Nat → Ordering} (h : Row r n o) (z : Int) : ∃ e, B_lyn2 [.sh r, .un] z = .rt (.bl (lynO n o)) false e z := by
  have ht : ∀ k : Nat, 1 ≤ k → k < n → (cCmp fLe (oE (eCut (oV 0) (pSo (oV 1)) pNo)) (oV 0)) [.sh r, .sh (.int k)] z = some (!(o k == .lt), z) := fun k h1 h2 => by
    obtain ⟨c, fr, hc, ho⟩ := h.cut k h1 h2
    simp [cCmp, oV, oE, eCut, pSo, pNo, hc, fLe_of ho]
  have hc := lyn_comp (s := .un) h.len h.le ht
  refine ⟨[.sh r, .un], ?_⟩
  by_cases h0 : n = 0
  · have hl := h.len
    subst h0
    simp [B_lyn2, sRet, eAnd, cE, eB, cCmp, oE, eBlt, aConsO, oV, aNil, hl, eC, fGt_int, lynO, Nat.blt]; rfl
  · have hb : Nat.blt 0 n = true := by rw [nblt]; exact decide_eq_true (by omega)
    have hp : (0 : Int) < n := by omega
    have s1 : cE (eB (cCmp fGt (oE (eBlt dLen (aConsO (oV 0) aNil))) (oE (eC (.int 0))))) [.sh r, .un] z = some (true, z) := by
      have hp' : 0 < n := by omega
      simp [cE, eB, cCmp, oE, eBlt, aConsO, oV, aNil, h.len, eC, fGt_int, hp']
    unfold B_lyn2 sRet eAnd
    rw [s1]
    simp only [Option.bind_some, if_true]
    unfold eB
    rw [hc]
    simp only [Option.map_some, lynO, hb, Bool.true_and]
def tls {α : Type} (f : List α → Bool) : List α → Bool
  | [] => true
  | y :: ys => f (y :: ys) && tls f ys
theorem tls_ok {α : Type} {f : List α → Bool} : ∀ {xs : List α}, tls f xs = (List.range xs.length).all fun i => f (xs.drop i)
  | [] => rfl
  | y :: ys => by
    unfold tls
    rw [tls_ok (xs := ys), List.length_cons, List.range_succ_eq_map, List.all_cons, List.all_map]
    rfl
theorem cut_drop {α : Type} (xs : List α) (k : Nat) (h : k < xs.length) : (xs.drop (HT.sIx xs.length 0 (some (k : Int)))).take (HT.sIx xs.length xs.length none - HT.sIx xs.length 0 (some (k : Int))) = xs.drop k := by
  rw [HT.sIx_nat, HT.sIx_none, Nat.min_eq_left (by omega)]
  exact List.take_of_length_le (by rw [List.length_drop]; exact Nat.le_refl _)
theorem okL_drop : ∀ {xs : List Nat} {k : Nat}, okL xs = true → okL (xs.drop k) = true
  | [], k, _ => by simp [okL]
  | x :: xs, 0, h => h
  | x :: xs, k + 1, h => by
    unfold okL at h
    cases q : Nat.blt x 1114112 with
    | true => rw [q] at h; exact okL_drop (xs := xs) (k := k) h
    | false => rw [q] at h; cases h
theorem row_str {x : Str} (h : okL x.cps.toList = true) (hl : x.cps.toList.length ≤ 16777216) : Row (.str x) x.cps.toList.length (fun k => cN x.cps.toList (x.cps.toList.drop k)) := by
  refine ⟨rfl, hl, fun k h1 h2 => ⟨.str ⟨(x.cps.toList.drop k).toArray⟩, false, ?_, ?_⟩⟩
  · show some (D.str (cutS x (some (k : Int)) none), false) = _
    have e : cutS x (some (k : Int)) none = ⟨(x.cps.toList.drop k).toArray⟩ := by
      unfold cutS
      have : x.length = x.cps.toList.length := rfl
      rw [this, cut_drop _ _ h2]
    rw [e]
  · show (if okL x.cps.toList && okL (x.cps.toList.drop k) then some (cN x.cps.toList (x.cps.toList.drop k)) else none) = _
    rw [h, okL_drop h]; rfl
theorem cL_I {n : Nat} : ∀ {xs ys : List D}, xs.all isI = true → ys.all isI = true → ∃ o, cL (cF n) (plainN n) xs ys = some o
  | [], [], _, _ => ⟨_, rfl⟩
  | [], y :: ys, _, h => by
    have hp : (y :: ys).all (plainN n) = true := by
      rw [List.all_eq_true] at h ⊢
      exact fun x hx => isI_pl (h x hx)
    exact ⟨.lt, by unfold cL; rw [if_pos hp]⟩
  | x :: xs, [], h, _ => by
    have hp : (x :: xs).all (plainN n) = true := by
      rw [List.all_eq_true] at h ⊢
      exact fun x hx => isI_pl (h x hx)
    exact ⟨.gt, by unfold cL; rw [if_pos hp]⟩
  | x :: xs, y :: ys, h1, h2 => by
    rw [List.all_cons, Bool.and_eq_true] at h1 h2
    obtain ⟨o, ho⟩ := cL_I (n := n) h1.2 h2.2
    cases x <;> simp [isI] at h1
    cases y <;> simp [isI] at h2
    rename_i i j
    have : cF n (.int i) (.int j) = some (cI i j) := by cases n <;> rfl
    exact ⟨_, by unfold cL; rw [this]; simp only; rw [ho]⟩
theorem row_tup {xs : List D} (h : xs.all isI = true) (hl : xs.length ≤ 16777216) : Row (.tup xs) xs.length (fun k => (cF 60 (.tup xs) (.tup (xs.drop k))).getD .eq) := by
  refine ⟨rfl, hl, fun k h1 h2 => ⟨.tup (xs.drop k), false, ?_, ?_⟩⟩
  · show some (D.tup (cutD xs (some (k : Int)) none), false) = _
    unfold cutD
    rw [cut_drop _ _ h2]
  · have hd : (xs.drop k).all isI = true := by
      rw [List.all_eq_true] at h ⊢
      exact fun x hx => h x (List.mem_of_mem_drop hx)
    obtain ⟨o, ho⟩ := cL_I (n := 59) h hd
    have : cF 60 (.tup xs) (.tup (xs.drop k)) = some o := ho
    rw [this]; rfl
def isLt : Ordering → Bool
  | .lt => true
  | _ => false
def isLtO : Option Ordering → Bool
  | some .lt => true
  | _ => false
theorem isLt_eq (o : Ordering) : (o == .lt) = isLt o := by cases o <;> rfl
theorem isLtO_eq (o : Option Ordering) : (o.getD .eq == .lt) = isLtO o := by
  cases o with
  | none => rfl
  | some o => cases o <;> rfl
/-- is the row less than all its rests -/
def xLyn : List D → Int → ER
  | [.str x], z => bif okL x.cps.toList && Nat.ble x.cps.toList.length 16777216 then (match x.cps.toList with
    | [] => some (.bl false, false, z)
    | c :: cs => some (.bl (tls (fun t => isLt (cN (c :: cs) t)) cs), false, z)) else none
  | [.tup xs], z => bif xs.all isI && Nat.ble xs.length 16777216 then (match xs with
    | [] => some (.bl false, false, z)
    | c :: cs => some (.bl (tls (fun t => isLtO (cF 60 (.tup (c :: cs)) (.tup t))) cs), false, z)) else none
  | _, _ => none
theorem xLyn_row {d r : D} {fr : Bool} {w w' : Int} (e : xLyn [r] w = some (d, fr, w')) : w' = w ∧ fr = false ∧ ∃ n o, Row r n o ∧ d = .bl (lynO n o) := by
  cases r with
  | str x =>
    simp only [xLyn] at e
    cases q : (okL x.cps.toList && Nat.ble x.cps.toList.length 16777216) with
    | false => rw [q] at e; cases e
    | true =>
      rw [q] at e
      rw [Bool.and_eq_true] at q
      have R := row_str q.1 (Nat.le_of_ble_eq_true q.2)
      generalize x.cps.toList = l at e R
      cases l with
      | nil => cases e; exact ⟨rfl, rfl, _, _, R, rfl⟩
      | cons c cs =>
        simp only [cond_true, Option.some.injEq, Prod.mk.injEq] at e
        obtain ⟨rfl, rfl, rfl⟩ := e
        refine ⟨rfl, rfl, _, _, R, ?_⟩
        congr 1
        rw [tls_ok]
        unfold lynO
        rw [List.length_cons, nblt, decide_eq_true (by omega), Bool.true_and, Nat.add_sub_cancel]
        congr 1
        funext i
        rw [isLt_eq, Nat.add_comm 1 i]; rfl
  | tup xs =>
    simp only [xLyn] at e
    cases q : (xs.all isI && Nat.ble xs.length 16777216) with
    | false => rw [q] at e; cases e
    | true =>
      rw [q] at e
      rw [Bool.and_eq_true] at q
      have R := row_tup q.1 (Nat.le_of_ble_eq_true q.2)
      cases xs with
      | nil => cases e; exact ⟨rfl, rfl, _, _, R, rfl⟩
      | cons c cs =>
        simp only [cond_true, Option.some.injEq, Prod.mk.injEq] at e
        obtain ⟨rfl, rfl, rfl⟩ := e
        refine ⟨rfl, rfl, _, _, R, ?_⟩
        congr 1
        rw [tls_ok]
        unfold lynO
        rw [List.length_cons, nblt, decide_eq_true (by omega), Bool.true_and, Nat.add_sub_cancel]
        congr 1
        funext i
        rw [isLtO_eq, Nat.add_comm 1 i]; rfl
  | _ => simp [xLyn] at e
theorem xLyn_one {ds : List D} {w : Int} {p : D × Bool × Int} (e : xLyn ds w = some p) : ∃ r, ds = [r] := by
  unfold xLyn at e
  split at e
  · exact ⟨_, rfl⟩
  · exact ⟨_, rfl⟩
  · cases e
theorem xLyn_ok {F : List D → Int → ER} (hF : F = runDef 1 1 B_lyn) : RfF xLyn F := fun ds w z d fr w' e => by
  obtain ⟨r, rfl⟩ := xLyn_one e
  obtain ⟨rfl, rfl, n, o, R, rfl⟩ := xLyn_row e
  obtain ⟨e1, h1⟩ := R.lyn z
  refine ⟨rfl, ?_⟩
  rw [hF]
  show (match B_lyn [.sh r, .un] z with | .rt d fr _ z' => some (d, fr, z') | .nx _ z' => some (.non, false, z') | _ => none) = _
  rw [h1]
theorem xLyn2_ok {F : List D → Int → ER} (hF : F = runDef 1 1 B_lyn2) : RfF xLyn F := fun ds w z d fr w' e => by
  obtain ⟨r, rfl⟩ := xLyn_one e
  obtain ⟨rfl, rfl, n, o, R, rfl⟩ := xLyn_row e
  obtain ⟨e1, h1⟩ := R.lyn2 z
  refine ⟨rfl, ?_⟩
  rw [hF]
  show (match B_lyn2 [.sh r, .un] z with | .rt d fr _ z' => some (d, fr, z') | .nx _ z' => some (.non, false, z') | _ => none) = _
  rw [h1]
end Tw

/-! the law, part by part; the table of indices -/
namespace Tw
open PySem PySem.Spec PyProof.Rows L2
/-- from every state, and every environment that keeps the draws' cell, the run returns True -/
def From0 (nl : Nat) (m : SM) : Prop := ∀ b z, Le (env0 nl) b → ∃ fr b' z', m b z = .rt (.bl true) fr b' z'
theorem From0.holds {nl : Nat} {m : SM} (h : From0 nl m) : Holds' nl m := fun ns z => by
  refine h _ z ⟨rfl, fun i s e => ?_⟩
  match i, e with
  | 0, e => cases e; exact .inl rfl
  | i + 1, e => exact .inr e
theorem from0_last {nl : Nat} {m m' : SM} (h : DrS m m') (T : List Nat) (hT : Cov T) (hk : runs nl m T = true) : From0 nl m' := fun b z l => by
  obtain ⟨t, ht, hm⟩ := hT z
  have q := List.all_eq_true.mp hk t ht
  have k := h _ _ _ z l hm
  unfold yes at q
  split at q
  · rename_i fr a w e
    have e' : m (env0 nl) (t : Int) = .rt (.bl true) fr a w := e
    rw [e'] at k
    obtain ⟨b, z', e2, _, _⟩ := k
    exact ⟨fr, b, z', e2⟩
  · cases q
/-- the run goes on, and has kept the cell -/
def goes (nl : Nat) : RS → Bool
  | .nx (_ :: .sh .cell :: r) _ => Nat.beq r.length nl
  | _ => false
theorem goes_ok {nl : Nat} {r : RS} (h : goes nl r = true) : ∃ a w, r = .nx a w ∧ Le (env0 nl) a := by
  unfold goes at h
  split at h
  · rename_i x r w
    have hl : r.length = nl := Nat.eq_of_beq_eq_true h
    refine ⟨_, w, rfl, ⟨by simp [env0, hl], fun i s e => ?_⟩⟩
    match i, e with
    | 0, e => cases e; exact .inl rfl
    | 1, e => cases e; exact .inr rfl
    | i + 2, e =>
      have e' : (List.replicate nl Slot.un)[i]? = some s := e
      rw [List.getElem?_replicate] at e'
      split at e'
      · cases e'; exact .inl rfl
      · cases e'
  · cases h
theorem Le.trans {a b c : Env'} (h : Le a b) (k : Le b c) : Le a c := ⟨h.len.trans k.len, fun i s e => by
  rcases h.at_ i s e with q | q
  · exact .inl q
  · exact k.at_ i s q⟩
theorem from0_seq {nl : Nat} {m m' rest : SM} (h : DrS m m') (T : List Nat) (hT : Cov T) (hk : (T.all fun t => goes nl (m (env0 nl) (.ofNat t))) = true) (hr : From0 nl rest) : From0 nl (sSeq m' rest) := fun b z l => by
  obtain ⟨t, ht, hm⟩ := hT z
  obtain ⟨a, w, e, la⟩ := goes_ok (List.all_eq_true.mp hk t ht)
  have k := h _ _ _ z l hm
  have e' : m (env0 nl) (t : Int) = .nx a w := e
  rw [e'] at k
  obtain ⟨b1, z1, e2, l2, _⟩ := k
  unfold sSeq
  rw [e2]
  exact hr b1 z1 (la.trans l2)
theorem sSeq_assoc (a b c : SM) : sSeq (sSeq a b) c = sSeq a (sSeq b c) := by
  funext env z
  unfold sSeq
  cases a env z <;> rfl
/-- for x in [e1, e2]: each by itself -/
theorem from0_for2 {nl i : Nat} {e1 e1' e2 e2' : EM} {m m' rest : SM} (h1 : DrE e1 e1') (h2 : DrE e2 e2') (h : DrS m m') (T1 T2 : List Nat) (c1 : Cov T1) (c2 : Cov T2)
    (k1 : (T1.all fun t => match e1 (env0 nl) (.ofNat t) with | some (d, _, _) => goes nl (m ((env0 nl).set i (.sh d)) 0) | none => false) = true)
    (k2 : (T2.all fun t => match e2 (env0 nl) (.ofNat t) with | some (d, _, _) => goes nl (m ((env0 nl).set i (.sh d)) 0) | none => false) = true)
    (hr : From0 nl rest) : From0 nl (sSeq (sFor (iAny (oE (eLst (aCons e1' (aCons e2' aNil))))) (bName i) m') rest) := fun b z l => by
  obtain ⟨t, ht, hm⟩ := c1 z
  have q1 := List.all_eq_true.mp k1 t ht
  split at q1
  case h_2 => cases q1
  rename_i d f w e
  obtain ⟨z1, g1, m1⟩ := h1 _ b _ z _ _ _ l hm (show e1 (env0 nl) (t : Int) = some (d, f, w) from e)
  obtain ⟨t2, ht2, hm2⟩ := c2 z1
  have q2 := List.all_eq_true.mp k2 t2 ht2
  split at q2
  case h_2 => cases q2
  rename_i d2 f2 w2 e2
  obtain ⟨z2, g2, m2⟩ := h2 _ b _ z1 _ _ _ l hm2 (show _ = some (d2, f2, w2) from e2)
  have it : iAny (oE (eLst (aCons e1' (aCons e2' aNil)))) b z = some ([d, d2], z2) := by
    have a : aCons e1' (aCons e2' aNil) b z = some ([d, d2], z2) := by simp [aCons, g1, g2, aNil]
    have a2 : eLst (aCons e1' (aCons e2' aNil)) b z = some (.lst [d, d2], true, z2) := by
      unfold eLst
      rw [a]
      simp only [Option.bind_some]
      rw [if_pos (by show 2 ≤ 16777216; omega)]
    unfold iAny oE
    rw [a2]; rfl
  unfold sSeq sFor
  rw [it]
  simp only
  -- the first
  obtain ⟨a, w3, e3, la⟩ := goes_ok q1
  have n1 := h _ (b.set i (.sh d)) _ z2 (l.set i _) (Mt.nil z2)
  rw [e3] at n1
  obtain ⟨b1, z3, e4, l4, _⟩ := n1
  have lb := la.trans l4
  obtain ⟨a', w4, e5, la'⟩ := goes_ok q2
  have n2 := h _ (b1.set i (.sh d2)) _ z3 (lb.set i _) (Mt.nil z3)
  rw [e5] at n2
  obtain ⟨b2, z4, e6, l6, _⟩ := n2
  have r1 : forL (bName i) m' [d, d2] b z2 = .nx b2 z4 := by
    unfold forL
    show (match m' (b.set i (.sh d)) z2 with | .nx env2 z2 => forL (bName i) m' [d2] env2 z2 | .ct env2 z2 => forL (bName i) m' [d2] env2 z2 | .bk env2 z2 => .nx env2 z2 | .rt d fr env2 z2 => .rt d fr env2 z2 | .bad => .bad) = _
    rw [e4]
    simp only
    unfold forL
    show (match m' (b1.set i (.sh d2)) z3 with | .nx env2 z2 => forL (bName i) m' [] env2 z2 | .ct env2 z2 => forL (bName i) m' [] env2 z2 | .bk env2 z2 => .nx env2 z2 | .rt d fr env2 z2 => .rt d fr env2 z2 | .bad => .bad) = _
    rw [e6]
    rfl
  rw [r1]
  exact hr b2 z4 (la'.trans l6)
/-! ### all the indices of a size, in order -/
def unr : Nat → Nat → Nat → List D
  | 0, c, _ => [.int (.ofNat c)]
  | b + 1, c, k => bif Nat.blt k (Nat.pow 2 b) then .int (.ofNat c) :: unr b 1 k else unr b (Nat.succ c) (Nat.sub k (Nat.pow 2 b))
def tblI : Nat → List D
  | 0 => [.tup []]
  | s + 1 => (List.range (Nat.pow 2 s)).map fun k => .tup (unr s 1 k)
def xInd : List D → Int → ER
  | [.int (.ofNat s)], z => bif Nat.ble s 9 then some (.lst (tblI s), true, z) else none
  | _, _ => none
def sameT (r : ER) (s : Nat) : Bool := match r with
  | some (.lst xs, true, .ofNat 0) => sqL (sq 3) xs (tblI s)
  | _ => false
theorem xInd_ok {F : List D → Int → ER} (hp : PuF F) (hk : (List.range 10).all (fun s => sameT (F [.int (.ofNat s)] 0) s) = true) : RfF xInd F := fun ds w z d fr w' e => by
  unfold xInd at e
  split at e
  · rename_i s
    cases q : Nat.ble s 9 with
    | false => rw [q] at e; cases e
    | true =>
      rw [q] at e
      simp only [cond_true, Option.some.injEq, Prod.mk.injEq] at e
      obtain ⟨rfl, rfl, rfl⟩ := e
      have hs : s < 10 := by have := Nat.le_of_ble_eq_true q; omega
      have k := List.all_eq_true.mp hk s (List.mem_range.mpr hs)
      unfold sameT at k
      split at k
      · rename_i xs hx
        obtain ⟨rfl, _⟩ := sqL_ok (sq_ok 3) _ _ k
        exact ⟨rfl, (hp _ _ z _ _ _ hx).2⟩
      · cases k
  · cases e
theorem xInd_ok2 {G F : List D → Int → ER} (hd : DrF G F) (hp : PuF F) (hk : ∀ s, s < 10 → sameT (G [.int (.ofNat s)] 0) s = true) : RfF xInd F := fun ds w z d fr w' e => by
  unfold xInd at e
  split at e
  · rename_i s
    cases q : Nat.ble s 9 with
    | false => rw [q] at e; cases e
    | true =>
      rw [q] at e
      simp only [cond_true, Option.some.injEq, Prod.mk.injEq] at e
      obtain ⟨rfl, rfl, rfl⟩ := e
      have hs : s < 10 := by have := Nat.le_of_ble_eq_true q; omega
      have k := hk s hs
      unfold sameT at k
      split at k
      · rename_i xs hx
        obtain ⟨rfl, _⟩ := sqL_ok (sq_ok 3) _ _ k
        obtain ⟨z', e2, _⟩ := hd _ _ 0 _ _ _ (Mt.nil 0) hx
        exact ⟨rfl, (hp _ _ z _ _ _ e2).2⟩
      · cases k
  · cases e
/-! ### powers -/
def B_pow : SM := (sSeq (sSet 2 (eC (.int 1))) (sSeq (sFor (iRg1 (aCons (eV 1) aNil)) (bName 3) (sSet 2 (mBin dMul (oV 2) (oV 0)))) (sRet (eV 2))))
def B_pow2 : SM := (sSeq (sSet 2 (eC (.int 1))) (sSeq (sFor (iRg1 (aCons (eV 1) aNil)) (bName 3) (sAug 2 dMulI (oV 0))) (sRet (eV 2))))
theorem pow_loop {a : Int} {D1 : Slot} {body : SM} {z : Int} (hb : ∀ (f : Int) (s : Slot), body [.sh (.int a), D1, .sh (.int f), s] z = .nx [.sh (.int a), D1, .sh (.int (f * a)), s] z) : ∀ (ds : List D) (f : Int) (s : Slot), ∃ t, forL (bName 3) body ds [.sh (.int a), D1, .sh (.int f), s] z = .nx [.sh (.int a), D1, .sh (.int (f * a ^ ds.length)), t] z
  | [], f, s => ⟨s, by simp [forL]⟩
  | d :: ds, f, s => by
    obtain ⟨t, h⟩ := pow_loop hb ds (f * a) (.sh d)
    refine ⟨t, ?_⟩
    have e : bName 3 d [.sh (.int a), D1, .sh (.int f), s] = some [.sh (.int a), D1, .sh (.int f), .sh d] := rfl
    rw [forL, e]
    simp only
    rw [hb]
    simp only
    rw [h, List.length_cons, Int.pow_succ, Int.mul_assoc, Int.mul_comm a]
theorem pow_gen {a : Int} {k : Nat} {D1 : D} {it : IM} {ds : List D} {body : SM} {z : Int} (hl : ds.length = k) (hi : it [.sh (.int a), .sh D1, .sh (.int 1), .un] z = some (ds, z)) (hb : ∀ (f : Int) (s : Slot), body [.sh (.int a), .sh D1, .sh (.int f), s] z = .nx [.sh (.int a), .sh D1, .sh (.int (f * a)), s] z) :
    ∃ e, (sSeq (sSet 2 (eC (.int 1))) (sSeq (sFor it (bName 3) body) (sRet (eV 2)))) [.sh (.int a), .sh D1, .un, .un] z = .rt (.int (a ^ k)) false e z := by
  obtain ⟨t, h⟩ := pow_loop hb ds 1 .un
  rw [hl, Int.one_mul] at h
  have s1 : (sSet 2 (eC (.int 1))) [.sh (.int a), .sh D1, .un, .un] z = .nx [.sh (.int a), .sh D1, .sh (.int 1), .un] z := rfl
  have s2 : sFor it (bName 3) body [.sh (.int a), .sh D1, .sh (.int 1), .un] z = .nx [.sh (.int a), .sh D1, .sh (.int (a ^ k)), t] z := by
    unfold sFor
    rw [hi]
    exact h
  refine ⟨[.sh (.int a), .sh D1, .sh (.int (a ^ k)), t], ?_⟩
  unfold sSeq
  rw [s1]
  simp only
  rw [s2]
  rfl
theorem rngOk_k {k : Nat} (hk : k ≤ 16777216) : rngOk 0 (k : Int) = true := by
  unfold rngOk
  rw [decide_eq_true (by omega), decide_eq_true (by omega), decide_eq_true (by omega), decide_eq_true (by omega), decide_eq_true (by show ((k : Int) - 0).toNat ≤ 16777216; omega)]
  rfl
theorem pow_run {a : Int} {k : Nat} {body : SM} {z : Int} (hk : k ≤ 16777216) (hb : ∀ (f : Int) (s : Slot), body [.sh (.int a), .sh (.int k), .sh (.int f), s] z = .nx [.sh (.int a), .sh (.int k), .sh (.int (f * a)), s] z) :
    ∃ e, (sSeq (sSet 2 (eC (.int 1))) (sSeq (sFor (iRg1 (aCons (eV 1) aNil)) (bName 3) body) (sRet (eV 2)))) [.sh (.int a), .sh (.int k), .un, .un] z = .rt (.int (a ^ k)) false e z :=
  pow_gen (ds := rngD 0 k) rng_len (iRg1_of rfl (rngOk_k hk) (by rw [Int.toNat_natCast])) hb
def xPow : List D → Int → ER
  | [.int (.ofNat a), .int (.ofNat k)], z => bif Nat.ble k 16777216 && Nat.blt a 18446744073709551616 then some (.int (.ofNat (Nat.pow a k)), false, z) else none
  | _, _ => none
theorem xPow_gen {F : List D → Int → ER} {B : SM} (hF : F = runDef 2 2 B) (hB : ∀ (a k : Nat) (z : Int), a < 18446744073709551616 → k ≤ 16777216 → ∃ e, B [.sh (.int a), .sh (.int k), .un, .un] z = .rt (.int ((a : Int) ^ k)) false e z) : RfF xPow F := fun ds w z d fr w' e => by
  unfold xPow at e
  split at e
  · rename_i a k
    cases q : (Nat.ble k 16777216 && Nat.blt a 18446744073709551616) with
    | false => rw [q] at e; cases e
    | true =>
      rw [q] at e
      rw [Bool.and_eq_true, nblt, decide_eq_true_iff] at q
      simp only [cond_true, Option.some.injEq, Prod.mk.injEq] at e
      obtain ⟨rfl, rfl, rfl⟩ := e
      refine ⟨rfl, ?_⟩
      obtain ⟨e1, h1⟩ := hB a k z q.2 (Nat.le_of_ble_eq_true q.1)
      rw [hF]
      show (match B [.sh (.int a), .sh (.int k), .un, .un] z with | .rt d fr _ z' => some (d, fr, z') | .nx _ z' => some (.non, false, z') | _ => none) = _
      rw [h1]
      have e2 : ((a : Int) ^ k) = Int.ofNat (Nat.pow a k) := (Int.natCast_pow a k).symm
      rw [e2]
  · cases e
theorem xPow_ok {F : List D → Int → ER} (hF : F = runDef 2 2 B_pow) : RfF xPow F := xPow_gen hF fun a k z ha hk => pow_run hk fun f s => by
  have m : mulOk f (a : Int) = true := mulOk_r (by rw [Int.natAbs_natCast]; exact ha)
  simp [sSet, mBin, oV, dMul, m]
theorem xPow2_ok {F : List D → Int → ER} (hF : F = runDef 2 2 B_pow2) : RfF xPow F := xPow_gen hF fun a k z ha hk => pow_run hk fun f s => by
  have m : mulOk f (a : Int) = true := mulOk_r (by rw [Int.natAbs_natCast]; exact ha)
  simp [sAug, oV, dMulI, m]
/-! ### in pieces -/
theorem all_chunks {α : Type} {f : α → Bool} {T : List α} (k n : Nat) (hk : 0 < k) (hn : T.length ≤ k * n) (h : ∀ i, i < n → ((T.drop (k * i)).take k).all f = true) : T.all f = true := by
  rw [List.all_eq_true]
  intro x hx
  obtain ⟨j, hj⟩ := List.getElem?_of_mem hx
  have hjl : j < T.length := (List.getElem?_eq_some_iff.mp hj).1
  have hi : j / k < n := by
    rw [Nat.div_lt_iff_lt_mul hk, Nat.mul_comm]; omega
  have := List.all_eq_true.mp (h (j / k) hi) x
  refine this (List.mem_of_getElem? (i := j % k) ?_)
  rw [List.getElem?_take_of_lt (Nat.mod_lt _ hk), List.getElem?_drop, Nat.div_add_mod]
  exact hj
end Tw

/-! ## the text's own part, written by gen.py -/
namespace Lw
open PySem PySem.Spec PyProof.Rows L2 Tw
def top (i : Nat) : Stmt := PySem.Challenge.pw_twowoven_k02_lyndon_rows.main.body.getD i (.Pass ⟨0, 0, 0, 0⟩)
abbrev s_divisors : Stmt := top 1
abbrev N_divisors : List Str := ["number", "part"]
theorem sc_divisors : FnScope N_divisors ["number"] (defScope s_divisors) := ⟨rfl, rfl, rfl, by decide +kernel, rfl, by decide +kernel, by decide +kernel⟩
abbrev s_moebius : Stmt := top 2
abbrev N_moebius : List Str := ["number", "found", "part"]
theorem sc_moebius : FnScope N_moebius ["number"] (defScope s_moebius) := ⟨rfl, rfl, rfl, by decide +kernel, rfl, by decide +kernel, by decide +kernel⟩
abbrev s_all_indices : Stmt := top 4
abbrev N_all_indices : List Str := ["size", "found", "first", "rest"]
theorem sc_all_indices : FnScope N_all_indices ["size"] (defScope s_all_indices) := ⟨rfl, rfl, rfl, by decide +kernel, rfl, by decide +kernel, by decide +kernel⟩
abbrev s_all_words : Stmt := top 6
abbrev N_all_words : List Str := ["length", "found", "_", "word", "sign"]
theorem sc_all_words : FnScope N_all_words ["length"] (defScope s_all_words) := ⟨rfl, rfl, rfl, by decide +kernel, rfl, by decide +kernel, by decide +kernel⟩
abbrev s_is_lyndon : Stmt := top 8
abbrev N_is_lyndon : List Str := ["row", "place"]
theorem sc_is_lyndon : FnScope N_is_lyndon ["row"] (defScope s_is_lyndon) := ⟨rfl, rfl, rfl, by decide +kernel, rfl, by decide +kernel, by decide +kernel⟩
abbrev s_lyndon_words : Stmt := top 9
abbrev N_lyndon_words : List Str := ["length", "word"]
theorem sc_lyndon_words : FnScope N_lyndon_words ["length"] (defScope s_lyndon_words) := ⟨rfl, rfl, rfl, by decide +kernel, rfl, by decide +kernel, by decide +kernel⟩
abbrev s_lyndon_indices : Stmt := top 10
abbrev N_lyndon_indices : List Str := ["size", "index"]
theorem sc_lyndon_indices : FnScope N_lyndon_indices ["size"] (defScope s_lyndon_indices) := ⟨rfl, rfl, rfl, by decide +kernel, rfl, by decide +kernel, by decide +kernel⟩
abbrev s_power : Stmt := top 12
abbrev N_power : List Str := ["number", "count", "found", "_"]
theorem sc_power : FnScope N_power ["number", "count"] (defScope s_power) := ⟨rfl, rfl, rfl, by decide +kernel, rfl, by decide +kernel, by decide +kernel⟩
abbrev s_lyndon_count : Stmt := top 11
abbrev N_lyndon_count : List Str := ["length", "letters", "part"]
theorem sc_lyndon_count : FnScope N_lyndon_count ["length", "letters"] (defScope s_lyndon_count) := ⟨rfl, rfl, rfl, by decide +kernel, rfl, by decide +kernel, by decide +kernel⟩
abbrev s_longest_lyndon : Stmt := top 14
abbrev N_longest_lyndon : List Str := ["row", "start", "best", "place"]
theorem sc_longest_lyndon : FnScope N_longest_lyndon ["row", "start"] (defScope s_longest_lyndon) := ⟨rfl, rfl, rfl, by decide +kernel, rfl, by decide +kernel, by decide +kernel⟩
abbrev s_fall_of : Stmt := top 13
abbrev N_fall_of : List Str := ["row", "found", "start", "end"]
theorem sc_fall_of : FnScope N_fall_of ["row"] (defScope s_fall_of) := ⟨rfl, rfl, rfl, by decide +kernel, rfl, by decide +kernel, by decide +kernel⟩
abbrev s_counts_of : Stmt := top 15
abbrev N_counts_of : List Str := ["rows", "found", "row"]
theorem sc_counts_of : FnScope N_counts_of ["rows"] (defScope s_counts_of) := ⟨rfl, rfl, rfl, by decide +kernel, rfl, by decide +kernel, by decide +kernel⟩
abbrev s__law_cell : Stmt := top 17
abbrev N__law_cell : List Str := ["script", "k", "cell"]
theorem sc__law_cell : FnScope N__law_cell ["script", "k"] (defScope s__law_cell) := ⟨rfl, rfl, rfl, by decide +kernel, rfl, by decide +kernel, by decide +kernel⟩
abbrev s__law_big : Stmt := top 18
abbrev N__law_big : List Str := ["script", "at", "count", "found", "k"]
theorem sc__law_big : FnScope N__law_big ["script", "at", "count"] (defScope s__law_big) := ⟨rfl, rfl, rfl, by decide +kernel, rfl, by decide +kernel, by decide +kernel⟩
abbrev s__law_take : Stmt := top 19
abbrev N__law_take : List Str := ["state", "m", "x"]
theorem sc__law_take : FnScope N__law_take ["state", "m"] (defScope s__law_take) := ⟨rfl, rfl, rfl, by decide +kernel, rfl, by decide +kernel, by decide +kernel⟩
abbrev s__law_same : Stmt := top 20
abbrev N__law_same : List Str := ["told", "due", "k", "key"]
theorem sc__law_same : FnScope N__law_same ["told", "due"] (defScope s__law_same) := ⟨rfl, rfl, rfl, by decide +kernel, rfl, by decide +kernel, by decide +kernel⟩
abbrev s__law_power : Stmt := top 23
abbrev N__law_power : List Str := ["number", "count", "found", "turn"]
theorem sc__law_power : FnScope N__law_power ["number", "count"] (defScope s__law_power) := ⟨rfl, rfl, rfl, by decide +kernel, rfl, by decide +kernel, by decide +kernel⟩
abbrev s__law_indices : Stmt := top 21
abbrev N__law_indices : List Str := ["size", "found", "ways", "place", "row", "last"]
theorem sc__law_indices : FnScope N__law_indices ["size"] (defScope s__law_indices) := ⟨rfl, rfl, rfl, by decide +kernel, rfl, by decide +kernel, by decide +kernel⟩
abbrev s__law_admissible : Stmt := top 22
abbrev N__law_admissible : List Str := ["size", "index"]
theorem sc__law_admissible : FnScope N__law_admissible ["size"] (defScope s__law_admissible) := ⟨rfl, rfl, rfl, by decide +kernel, rfl, by decide +kernel, by decide +kernel⟩
abbrev s__law_drawn_index : Stmt := top 24
abbrev N__law_drawn_index : List Str := ["state", "most", "admissible", "size", "rows"]
theorem sc__law_drawn_index : FnScope N__law_drawn_index ["state", "most", "admissible"] (defScope s__law_drawn_index) := ⟨rfl, rfl, rfl, by decide +kernel, rfl, by decide +kernel, by decide +kernel⟩
abbrev s__law_drawn_word : Stmt := top 25
abbrev N__law_drawn_word : List Str := ["state", "most", "text", "turn"]
theorem sc__law_drawn_word : FnScope N__law_drawn_word ["state", "most"] (defScope s__law_drawn_word) := ⟨rfl, rfl, rfl, by decide +kernel, rfl, by decide +kernel, by decide +kernel⟩
abbrev s__law_words : Stmt := top 26
abbrev N__law_words : List Str := ["length", "found", "turn", "longer", "word"]
theorem sc__law_words : FnScope N__law_words ["length"] (defScope s__law_words) := ⟨rfl, rfl, rfl, by decide +kernel, rfl, by decide +kernel, by decide +kernel⟩
abbrev s__law_is_lyndon : Stmt := top 27
abbrev N__law_is_lyndon : List Str := ["row", "k"]
theorem sc__law_is_lyndon : FnScope N__law_is_lyndon ["row"] (defScope s__law_is_lyndon) := ⟨rfl, rfl, rfl, by decide +kernel, rfl, by decide +kernel, by decide +kernel⟩
abbrev s__law_fall : Stmt := top 28
abbrev N__law_fall : List Str := ["row", "found", "start", "end", "k"]
theorem sc__law_fall : FnScope N__law_fall ["row"] (defScope s__law_fall) := ⟨rfl, rfl, rfl, by decide +kernel, rfl, by decide +kernel, by decide +kernel⟩
abbrev s__law_moebius : Stmt := top 29
abbrev N__law_moebius : List Str := ["n", "p", "found", "left"]
theorem sc__law_moebius : FnScope N__law_moebius ["n"] (defScope s__law_moebius) := ⟨rfl, rfl, rfl, by decide +kernel, rfl, by decide +kernel, by decide +kernel⟩
abbrev s_law : Stmt := top 30
abbrev N_law : List Str := ["script", "state", "row", "length", "words", "letters", "due", "number", "pairs", "part", "word", "d", "index"]
theorem sc_law : FnScope N_law ["script"] (defScope s_law) := ⟨rfl, rfl, rfl, by decide +kernel, rfl, by decide +kernel, by decide +kernel⟩
/-! ### what each def computes -/
def B_divisors : SM := (sRet (eComp [1] (iRg2 (aCons (eC (.int 1)) (aCons (mBin fAdd (oV 0) (oE (eC (.int 1)))) aNil))) (bName 1) (cCmp fEq (oE (mBin dMod (oV 0) (oV 1))) (oE (eC (.int 0)))) (eV 1)))
def F_divisors : Nat → List D → Int → ER
  | 0 => fun _ _ => none
  | n + 1 => runDef 1 1 (B_divisors)
def B_moebius : SM := (sSeq (sSet 1 (eC (.int 1))) (sSeq (sSet 2 (eC (.int 2))) (sSeq (whileN (cCmp fGt (oV 0) (oE (eC (.int 1)))) (sSeq (sIf (cCmp fEq (oE (mBin dMod (oV 0) (oV 2))) (oE (eC (.int 0)))) (sSeq (sAug 0 dDiv (oV 2)) (sSeq (sSet 1 (mUn dNeg (oV 1))) (sIf (cCmp fEq (oE (mBin dMod (oV 0) (oV 2))) (oE (eC (.int 0)))) (sRet (eC (.int 0))) sNil))) sNil) (sAug 2 dAddI (oE (eC (.int 1))))) wFuel) (sRet (eV 1)))))
def F_moebius : Nat → List D → Int → ER
  | 0 => fun _ _ => none
  | n + 1 => runDef 1 2 (B_moebius)
def B_all_indices (c_all_indices : List D → Int → ER) : SM := (sSeq (sIf (cCmp fEq (oV 0) (oE (eC (.int 0)))) (sRet (eLst (aCons (eTup aNil) aNil))) sNil) (sSeq (sSetO 1 (eLst aNil)) (sSeq (sFor (iRg2 (aCons (eC (.int 1)) (aCons (mBin fAdd (oV 0) (oE (eC (.int 1)))) aNil))) (bName 2) (sExt 1 (oE (eComp [3] (iAny (oE (eCall c_all_indices (aCons (mBin dSub (oV 0) (oV 2)) aNil)))) (bName 3) cYes (mBin fAdd (oE (eTup (aCons (eV 2) aNil))) (oV 3)))))) (sRetO 1))))
def F_all_indices : Nat → List D → Int → ER
  | 0 => fun _ _ => none
  | n + 1 => runDef 1 3 (B_all_indices (F_all_indices n))
def B_all_words : SM := (sSeq (sSet 1 (eLst (aCons (eC (.str "")) aNil))) (sSeq (sFor (iRg1 (aCons (eV 0) aNil)) (bName 2) (sSet 1 (eComp2 [3, 4] (iAny (oV 1)) (bName 3) cYes (iAny (oE (eC (.str "xy")))) [4] (bName 4) cYes (mBin fAdd (oV 3) (oV 4))))) (sRet (eV 1))))
def F_all_words : Nat → List D → Int → ER
  | 0 => fun _ _ => none
  | n + 1 => runDef 1 4 (B_all_words)
def B_is_lyndon : SM := (sSeq (sIf (cCmp fEq (oE (eBlt dLen (aConsO (oV 0) aNil))) (oE (eC (.int 0)))) (sRet (eC (.bl false))) sNil) (sRet (eB (cCmp fEq (oE (eComp [1] (iRg2 (aCons (eC (.int 1)) (aCons (eBlt dLen (aConsO (oV 0) aNil)) aNil))) (bName 1) (cNot (cCmp fLt (oV 0) (oE (eCut (oV 0) (pSo (oV 1)) pNo)))) (eV 1))) (oE (eLst aNil))))))
def F_is_lyndon : Nat → List D → Int → ER
  | 0 => fun _ _ => none
  | n + 1 => runDef 1 1 (B_is_lyndon)
def B_lyndon_words (c_all_words : List D → Int → ER) (c_is_lyndon : List D → Int → ER) : SM := (sRet (eComp [1] (iAny (oE (eCall c_all_words (aCons (eV 0) aNil)))) (bName 1) (cE (eCall c_is_lyndon (aCons (eV 1) aNil))) (eV 1)))
def F_lyndon_words : Nat → List D → Int → ER
  | 0 => fun _ _ => none
  | n + 1 => runDef 1 1 (B_lyndon_words (F_all_words n) (F_is_lyndon n))
def B_lyndon_indices (c_all_indices : List D → Int → ER) (c_is_lyndon : List D → Int → ER) : SM := (sRet (eComp [1] (iAny (oE (eCall c_all_indices (aCons (eV 0) aNil)))) (bName 1) (cE (eCall c_is_lyndon (aCons (eV 1) aNil))) (eV 1)))
def F_lyndon_indices : Nat → List D → Int → ER
  | 0 => fun _ _ => none
  | n + 1 => runDef 1 1 (B_lyndon_indices (F_all_indices n) (F_is_lyndon n))
def B_power : SM := (sSeq (sSet 2 (eC (.int 1))) (sSeq (sFor (iRg1 (aCons (eV 1) aNil)) (bName 3) (sAug 2 dMulI (oV 0))) (sRet (eV 2))))
def F_power : Nat → List D → Int → ER
  | 0 => fun _ _ => none
  | n + 1 => runDef 2 2 (B_power)
def B_lyndon_count (c_divisors : List D → Int → ER) (c_moebius : List D → Int → ER) (c_power : List D → Int → ER) : SM := (sRet (mBin dDiv (oE (eBlt dSum (aConsO (oE (eComp [2] (iAny (oE (eCall c_divisors (aCons (eV 0) aNil)))) (bName 2) cYes (mBin dMul (oE (eCall c_moebius (aCons (eV 2) aNil))) (oE (eCall c_power (aCons (eV 1) (aCons (mBin dDiv (oV 0) (oV 2)) aNil))))))) aNil))) (oV 0)))
def F_lyndon_count : Nat → List D → Int → ER
  | 0 => fun _ _ => none
  | n + 1 => runDef 2 1 (B_lyndon_count (F_divisors n) (F_moebius n) (F_power n))
def B_longest_lyndon (c_is_lyndon : List D → Int → ER) : SM := (sSeq (sSet 2 (mBin fAdd (oV 1) (oE (eC (.int 1))))) (sSeq (sFor (iRg2 (aCons (mBin fAdd (oV 1) (oE (eC (.int 1)))) (aCons (mBin fAdd (oE (eBlt dLen (aConsO (oV 0) aNil))) (oE (eC (.int 1)))) aNil))) (bName 3) (sIf (cE (eCall c_is_lyndon (aCons (eCut (oV 0) (pSo (oV 1)) (pSo (oV 3))) aNil))) (sSet 2 (eV 3)) sNil)) (sRet (eV 2))))
def F_longest_lyndon : Nat → List D → Int → ER
  | 0 => fun _ _ => none
  | n + 1 => runDef 2 2 (B_longest_lyndon (F_is_lyndon n))
def B_fall_of (c_longest_lyndon : List D → Int → ER) : SM := (sSeq (sSetO 1 (eLst aNil)) (sSeq (sSet 2 (eC (.int 0))) (sSeq (whileN (cCmp fLt (oV 2) (oE (eBlt dLen (aConsO (oV 0) aNil)))) (sSeq (sSet 3 (eCall c_longest_lyndon (aCons (eV 0) (aCons (eV 2) aNil)))) (sSeq (sApp 1 (eCut (oV 0) (pSo (oV 2)) (pSo (oV 3)))) (sSet 2 (eV 3)))) wFuel) (sRetO 1))))
def F_fall_of : Nat → List D → Int → ER
  | 0 => fun _ _ => none
  | n + 1 => runDef 1 3 (B_fall_of (F_longest_lyndon n))
def B_counts_of : SM := (sSeq (sSetO 1 (eLst aNil)) (sSeq (sFor (iAny (oE (eV 0))) (bName 2) (sIf (cAnd (cCmp fNe (oV 1) (oE (eLst aNil))) (cCmp fEq (oE (mBin dIx (oE (mBin dIx (oV 1) (oE (mUn dNeg (oE (eC (.int 1))))))) (oE (eC (.int 0))))) (oV 2))) (sSetIx 1 (oE (mUn dNeg (oE (eC (.int 1))))) (eTup (aCons (eV 2) (aCons (mBin fAdd (oE (mBin dIx (oE (mBin dIx (oV 1) (oE (mUn dNeg (oE (eC (.int 1))))))) (oE (eC (.int 1))))) (oE (eC (.int 1)))) aNil)))) (sApp 1 (eTup (aCons (eV 2) (aCons (eC (.int 1)) aNil)))))) (sRetO 1)))
def F_counts_of : Nat → List D → Int → ER
  | 0 => fun _ _ => none
  | n + 1 => runDef 1 2 (B_counts_of)
def B__law_cell : SM := (sSeq (sIf (cAnd (cCmp fLt (oV 1) (oE (eBlt dLen (aConsO (oV 0) aNil)))) (cCmp fGe (oE (mBin dIx (oV 0) (oV 1))) (oE (mBin dPow (oE (eC (.int 10))) (oE (eC (.int 9))))))) (sRet (mBin dIx (oV 0) (oV 1))) sNil) (sSeq (sSet 2 (mBin fAdd (oE (mBin dMul (oE (eC (.int 7))) (oV 1))) (oE (eC (.int 1))))) (sSeq (sIf (cCmp fGt (oE (eBlt dLen (aConsO (oV 0) aNil))) (oE (eC (.int 0)))) (sSet 2 (mBin fAdd (oV 2) (oE (mBin dMul (oE (eC (.int 31))) (oE (mBin dIx (oV 0) (oE (mBin dMod (oE (eBlt dInt (aConsO (oV 1) aNil))) (oE (eBlt dLen (aConsO (oV 0) aNil))))))))))) sNil) (sSeq (sSet 2 (mBin dMod (oE (eBlt dInt (aConsO (oE (mBin fAdd (oE (mBin dMul (oV 2) (oE (eC (.int 48271))))) (oE (mBin dMul (oE (eC (.int 69621))) (oV 1))))) aNil))) (oE (eC (.int 2147483647))))) (sRet (mBin dMod (oE (eBlt dInt (aConsO (oE (mBin fAdd (oE (mBin dMul (oV 2) (oV 2))) (oE (mBin dMul (oE (eC (.int 48271))) (oE (mBin dDiv (oV 2) (oE (eC (.int 1000))))))))) aNil))) (oE (eC (.int 2147483629)))))))))
def F__law_cell : Nat → List D → Int → ER
  | 0 => fun _ _ => none
  | n + 1 => runDef 2 1 (B__law_cell)
def B__law_big (c__law_cell : List D → Int → ER) : SM := (sSeq (sSet 3 (eC (.int 0))) (sSeq (sFor (iRg1 (aCons (eV 2) aNil)) (bName 4) (sSet 3 (mBin fAdd (oE (mBin dMul (oV 3) (oE (eC (.int 2147483648))))) (oE (eCall c__law_cell (aCons (eV 0) (aCons (mBin fAdd (oV 1) (oV 4)) aNil))))))) (sRet (eLst (aCons (eV 3) aNil)))))
def F__law_big : Nat → List D → Int → ER
  | 0 => fun _ _ => none
  | n + 1 => runDef 3 2 (B__law_big (F__law_cell n))
def B__law_take : SM := (sSeq (sSet 2 (mBin dMod (oE (eBlt dInt (aConsO (oE (eCell 0)) aNil))) (oV 1))) (sSeq (sCell 0 (eBlt dInt (aConsO (oE (mBin dDiv (oE (eCell 0)) (oV 1))) aNil))) (sRet (eV 2))))
def F__law_take : Nat → List D → Int → ER
  | 0 => fun _ _ => none
  | n + 1 => runDef 2 1 (B__law_take)
def B__law_same (c__law_same : List D → Int → ER) : SM := (sSeq (sIf (cOr (cE (mUn (dIsi "list") (oV 1))) (cE (mUn (dIsi "tuple") (oV 1)))) (sSeq (sIf (cOr (cAnd (cE (mUn (dIsi "list") (oV 1))) (cNot (cE (mUn (dIsi "list") (oV 0))))) (cAnd (cE (mUn (dIsi "tuple") (oV 1))) (cNot (cE (mUn (dIsi "tuple") (oV 0)))))) (sRet (eC (.bl false))) sNil) (sSeq (sIf (cCmp fNe (oE (eBlt dLen (aConsO (oV 0) aNil))) (oE (eBlt dLen (aConsO (oV 1) aNil)))) (sRet (eC (.bl false))) sNil) (sRet (eB (cCmp fEq (oE (eComp [2] (iRg1 (aCons (eBlt dLen (aConsO (oV 1) aNil)) aNil)) (bName 2) (cNot (cE (eCall c__law_same (aCons (mBin dIx (oV 0) (oV 2)) (aCons (mBin dIx (oV 1) (oV 2)) aNil))))) (eV 2))) (oE (eLst aNil))))))) sNil) (sSeq (sIf (cE (mUn (dIsi "dict") (oV 1))) (sSeq (sIf (cOr (cNot (cE (mUn (dIsi "dict") (oV 0)))) (cCmp fNe (oE (eBlt dLen (aConsO (oV 0) aNil))) (oE (eBlt dLen (aConsO (oV 1) aNil))))) (sRet (eC (.bl false))) sNil) (sRet (eB (cCmp fEq (oE (eComp [3] (iAny (oV 1)) (bName 3) (cOr (cCmp fNotIn (oV 3) (oV 0)) (cNot (cE (eCall c__law_same (aCons (mBin dIx (oV 0) (oV 3)) (aCons (mBin dIx (oV 1) (oV 3)) aNil)))))) (eV 3))) (oE (eLst aNil)))))) sNil) (sSeq (sIf (cCmp dIsN (oV 1) (oE (eC .non))) (sRet (eB (cCmp dIsN (oV 0) (oE (eC .non))))) sNil) (sSeq (sIf (cE (mUn (dIsi "bool") (oV 1))) (sRet (eAnd (mUn (dIsi "bool") (oV 0)) (eB (cCmp fEq (oV 0) (oV 1))))) sNil) (sSeq (sIf (cE (mUn (dIsi "str") (oV 1))) (sRet (eAnd (mUn (dIsi "str") (oV 0)) (eB (cCmp fEq (oV 0) (oV 1))))) sNil) (sRet (eAnd (mUn (dIsi "int") (oV 0)) (eAnd (eNot (mUn (dIsi "bool") (oV 0))) (eB (cCmp fEq (oV 0) (oV 1)))))))))))
def F__law_same : Nat → List D → Int → ER
  | 0 => fun _ _ => none
  | n + 1 => runDef 2 2 (B__law_same (F__law_same n))
def B__law_power : SM := (sSeq (sSet 2 (eC (.int 1))) (sSeq (sFor (iRg1 (aCons (eV 1) aNil)) (bName 3) (sSet 2 (mBin dMul (oV 2) (oV 0)))) (sRet (eV 2))))
def F__law_power : Nat → List D → Int → ER
  | 0 => fun _ _ => none
  | n + 1 => runDef 2 2 (B__law_power)
def B__law_indices (c__law_power : List D → Int → ER) : SM := (sSeq (sIf (cCmp fEq (oV 0) (oE (eC (.int 0)))) (sRet (eLst (aCons (eTup aNil) aNil))) sNil) (sSeq (sSetO 1 (eLst aNil)) (sSeq (sFor (iRg1 (aCons (eCall c__law_power (aCons (eC (.int 2)) (aCons (mBin dSub (oV 0) (oE (eC (.int 1)))) aNil))) aNil)) (bName 2) (sSeq (sParO 4 5 (eLst aNil) (eC (.int 0))) (sSeq (sFor (iRg2 (aCons (eC (.int 1)) (aCons (eV 0) aNil))) (bName 3) (sIf (cCmp fEq (oE (mBin dMod (oE (mBin dDiv (oV 2) (oE (eCall c__law_power (aCons (eC (.int 2)) (aCons (mBin dSub (oV 3) (oE (eC (.int 1)))) aNil)))))) (oE (eC (.int 2))))) (oE (eC (.int 1)))) (sSeq (sApp 4 (mBin dSub (oV 3) (oV 5))) (sSet 5 (eV 3))) sNil)) (sApp 1 (eBlt dTuple (aConsO (oE (mBin fAdd (oV 4) (oE (eLst (aCons (mBin dSub (oV 0) (oV 5)) aNil))))) aNil)))))) (sRet (eBlt fSorted (aConsO (oV 1) aNil))))))
def F__law_indices : Nat → List D → Int → ER
  | 0 => fun _ _ => none
  | n + 1 => runDef 1 5 (B__law_indices (F__law_power n))
def B__law_admissible (c__law_indices : List D → Int → ER) : SM := (sRet (eComp [1] (iAny (oE (eCall c__law_indices (aCons (eV 0) aNil)))) (bName 1) (cOr (cCmp fEq (oV 1) (oE (eTup aNil))) (cCmp fGt (oE (mBin dIx (oV 1) (oE (eC (.int 0))))) (oE (eC (.int 1))))) (eV 1)))
def F__law_admissible : Nat → List D → Int → ER
  | 0 => fun _ _ => none
  | n + 1 => runDef 1 1 (B__law_admissible (F__law_indices n))
def B__law_drawn_index (c__law_take : List D → Int → ER) (c__law_admissible : List D → Int → ER) (c__law_indices : List D → Int → ER) : SM := (sSeq (sSet 3 (mBin fAdd (oE (eC (.int 1))) (oE (eCall c__law_take (aCons (eV 0) (aCons (eV 1) aNil)))))) (sSeq (sSet 4 (eIf (cE (eV 2)) (eCall c__law_admissible (aCons (eBlt dMax (aConsO (oE (eC (.int 2))) (aConsO (oV 3) aNil))) aNil)) (eCall c__law_indices (aCons (eV 3) aNil)))) (sRet (mBin dIx (oV 4) (oE (eCall c__law_take (aCons (eV 0) (aCons (eBlt dLen (aConsO (oV 4) aNil)) aNil))))))))
def F__law_drawn_index : Nat → List D → Int → ER
  | 0 => fun _ _ => none
  | n + 1 => runDef 3 2 (B__law_drawn_index (F__law_take n) (F__law_admissible n) (F__law_indices n))
def B__law_drawn_word (c__law_take : List D → Int → ER) : SM := (sSeq (sSet 2 (eC (.str ""))) (sSeq (sFor (iRg1 (aCons (eCall c__law_take (aCons (eV 0) (aCons (mBin fAdd (oV 1) (oE (eC (.int 1)))) aNil))) aNil)) (bName 3) (sSet 2 (mBin fAdd (oV 2) (oE (mBin dIx (oE (eC (.str "xy"))) (oE (eCall c__law_take (aCons (eV 0) (aCons (eC (.int 2)) aNil))))))))) (sRet (eV 2))))
def F__law_drawn_word : Nat → List D → Int → ER
  | 0 => fun _ _ => none
  | n + 1 => runDef 2 2 (B__law_drawn_word (F__law_take n))
def B__law_words : SM := (sSeq (sSet 1 (eLst (aCons (eC (.str "")) aNil))) (sSeq (sFor (iRg1 (aCons (eV 0) aNil)) (bName 2) (sSeq (sSet 3 (eLst aNil)) (sSeq (sFor (iAny (oE (eV 1))) (bName 4) (sSet 3 (mBin fAdd (oV 3) (oE (eLst (aCons (mBin fAdd (oV 4) (oE (eC (.str "x")))) (aCons (mBin fAdd (oV 4) (oE (eC (.str "y")))) aNil))))))) (sSet 1 (eV 3))))) (sRet (eV 1))))
def F__law_words : Nat → List D → Int → ER
  | 0 => fun _ _ => none
  | n + 1 => runDef 1 4 (B__law_words)
def B__law_is_lyndon : SM := (sRet (eAnd (eB (cCmp fGt (oE (eBlt dLen (aConsO (oV 0) aNil))) (oE (eC (.int 0))))) (eB (cCmp fEq (oE (eComp [1] (iRg2 (aCons (eC (.int 1)) (aCons (eBlt dLen (aConsO (oV 0) aNil)) aNil))) (bName 1) (cCmp fLe (oE (eCut (oV 0) (pSo (oV 1)) pNo)) (oV 0)) (eV 1))) (oE (eLst aNil))))))
def F__law_is_lyndon : Nat → List D → Int → ER
  | 0 => fun _ _ => none
  | n + 1 => runDef 1 1 (B__law_is_lyndon)
def B__law_fall (c__law_is_lyndon : List D → Int → ER) : SM := (sSeq (sParO 1 2 (eLst aNil) (eC (.int 0))) (sSeq (whileN (cCmp fLt (oV 2) (oE (eBlt dLen (aConsO (oV 0) aNil)))) (sSeq (sSet 3 (eBlt dMax (aConsO (oE (eComp [4] (iRg2 (aCons (mBin fAdd (oV 2) (oE (eC (.int 1)))) (aCons (mBin fAdd (oE (eBlt dLen (aConsO (oV 0) aNil))) (oE (eC (.int 1)))) aNil))) (bName 4) (cE (eCall c__law_is_lyndon (aCons (eCut (oV 0) (pSo (oV 2)) (pSo (oV 4))) aNil))) (eV 4))) aNil))) (sSeq (sApp 1 (eCut (oV 0) (pSo (oV 2)) (pSo (oV 3)))) (sSet 2 (eV 3)))) wFuel) (sRetO 1)))
def F__law_fall : Nat → List D → Int → ER
  | 0 => fun _ _ => none
  | n + 1 => runDef 1 4 (B__law_fall (F__law_is_lyndon n))
def B__law_moebius : SM := (sSeq (sPar 2 3 (aCons (eC (.int 1)) (aCons (eV 0) aNil))) (sSeq (sFor (iRg2 (aCons (eC (.int 2)) (aCons (mBin fAdd (oV 0) (oE (eC (.int 1)))) aNil))) (bName 1) (sIf (cCmp fEq (oE (mBin dMod (oE (eBlt dInt (aConsO (oV 3) aNil))) (oV 1))) (oE (eC (.int 0)))) (sSeq (sPar 3 2 (aCons (mBin dDiv (oV 3) (oV 1)) (aCons (mUn dNeg (oV 2)) aNil))) (sIf (cCmp fEq (oE (mBin dMod (oE (eBlt dInt (aConsO (oV 3) aNil))) (oV 1))) (oE (eC (.int 0)))) (sRet (eC (.int 0))) sNil)) sNil)) (sRet (eV 2))))
def F__law_moebius : Nat → List D → Int → ER
  | 0 => fun _ _ => none
  | n + 1 => runDef 1 3 (B__law_moebius)
def M0 (c__law_big : List D → Int → ER) : SM := (sSetO 1 (eCall c__law_big (aCons (eV 0) (aCons (eC (.int 0)) (aCons (eC (.int 20)) aNil)))))
def P1 (c__law_drawn_word : List D → Int → ER) (c__law_drawn_index : List D → Int → ER) (c__law_same : List D → Int → ER) (c_is_lyndon : List D → Int → ER) (c__law_is_lyndon : List D → Int → ER) (c_fall_of : List D → Int → ER) (c__law_fall : List D → Int → ER) (c_counts_of : List D → Int → ER) (c__law_take : List D → Int → ER) (c__law_words : List D → Int → ER) (c_lyndon_words : List D → Int → ER) (c_lyndon_count : List D → Int → ER) (c_lyndon_indices : List D → Int → ER) (c__law_indices : List D → Int → ER) (c__law_moebius : List D → Int → ER) (c__law_power : List D → Int → ER) (c_moebius : List D → Int → ER) (c_divisors : List D → Int → ER) : SM := (sFor (iAny (oE (eLst (aCons (eCall c__law_drawn_word (aCons (eV 1) (aCons (eC (.int 9)) aNil))) (aCons (eCall c__law_drawn_index (aCons (eV 1) (aCons (eC (.int 9)) (aCons (eC (.bl false)) aNil)))) aNil))))) (bName 2) (sSeq (sIf (cOr (cNot (cE (eCall c__law_same (aCons (eCall c_is_lyndon (aCons (eV 2) aNil)) (aCons (eCall c__law_is_lyndon (aCons (eV 2) aNil)) aNil))))) (cNot (cE (eCall c__law_same (aCons (eCall c_fall_of (aCons (eV 2) aNil)) (aCons (eCall c__law_fall (aCons (eV 2) aNil)) aNil)))))) (sRet (eC (.bl false))) sNil) (sSeq (sSetO 8 (eLst aNil)) (sSeq (sFor (iAny (oE (eCall c__law_fall (aCons (eV 2) aNil)))) (bName 9) (sIf (cAnd (cCmp fNe (oV 8) (oE (eLst aNil))) (cCmp fEq (oE (mBin dIx (oE (mBin dIx (oV 8) (oE (mUn dNeg (oE (eC (.int 1))))))) (oE (eC (.int 0))))) (oV 9))) (sSetIx 8 (oE (mUn dNeg (oE (eC (.int 1))))) (eTup (aCons (eV 9) (aCons (mBin fAdd (oE (mBin dIx (oE (mBin dIx (oV 8) (oE (mUn dNeg (oE (eC (.int 1))))))) (oE (eC (.int 1))))) (oE (eC (.int 1)))) aNil)))) (sApp 8 (eTup (aCons (eV 9) (aCons (eC (.int 1)) aNil)))))) (sFrz 8 (sIf (cNot (cE (eCall c__law_same (aCons (eCall c_counts_of (aCons (eCall c__law_fall (aCons (eV 2) aNil)) aNil)) (aCons (eV 8) aNil))))) (sRet (eC (.bl false))) sNil))))))
def P2 (c__law_drawn_word : List D → Int → ER) (c__law_drawn_index : List D → Int → ER) (c__law_same : List D → Int → ER) (c_is_lyndon : List D → Int → ER) (c__law_is_lyndon : List D → Int → ER) (c_fall_of : List D → Int → ER) (c__law_fall : List D → Int → ER) (c_counts_of : List D → Int → ER) (c__law_take : List D → Int → ER) (c__law_words : List D → Int → ER) (c_lyndon_words : List D → Int → ER) (c_lyndon_count : List D → Int → ER) (c_lyndon_indices : List D → Int → ER) (c__law_indices : List D → Int → ER) (c__law_moebius : List D → Int → ER) (c__law_power : List D → Int → ER) (c_moebius : List D → Int → ER) (c_divisors : List D → Int → ER) : SM := (sSet 3 (mBin fAdd (oE (eC (.int 1))) (oE (eCall c__law_take (aCons (eV 1) (aCons (eC (.int 7)) aNil))))))
def P3 (c__law_drawn_word : List D → Int → ER) (c__law_drawn_index : List D → Int → ER) (c__law_same : List D → Int → ER) (c_is_lyndon : List D → Int → ER) (c__law_is_lyndon : List D → Int → ER) (c_fall_of : List D → Int → ER) (c__law_fall : List D → Int → ER) (c_counts_of : List D → Int → ER) (c__law_take : List D → Int → ER) (c__law_words : List D → Int → ER) (c_lyndon_words : List D → Int → ER) (c_lyndon_count : List D → Int → ER) (c_lyndon_indices : List D → Int → ER) (c__law_indices : List D → Int → ER) (c__law_moebius : List D → Int → ER) (c__law_power : List D → Int → ER) (c_moebius : List D → Int → ER) (c_divisors : List D → Int → ER) : SM := (sSet 4 (eComp [10] (iAny (oE (eCall c__law_words (aCons (eV 3) aNil)))) (bName 10) (cE (eCall c__law_is_lyndon (aCons (eV 10) aNil))) (eV 10)))
def P4 (c__law_drawn_word : List D → Int → ER) (c__law_drawn_index : List D → Int → ER) (c__law_same : List D → Int → ER) (c_is_lyndon : List D → Int → ER) (c__law_is_lyndon : List D → Int → ER) (c_fall_of : List D → Int → ER) (c__law_fall : List D → Int → ER) (c_counts_of : List D → Int → ER) (c__law_take : List D → Int → ER) (c__law_words : List D → Int → ER) (c_lyndon_words : List D → Int → ER) (c_lyndon_count : List D → Int → ER) (c_lyndon_indices : List D → Int → ER) (c__law_indices : List D → Int → ER) (c__law_moebius : List D → Int → ER) (c__law_power : List D → Int → ER) (c_moebius : List D → Int → ER) (c_divisors : List D → Int → ER) : SM := (sIf (cNot (cE (eCall c__law_same (aCons (eLst (aCons (eCall c_lyndon_words (aCons (eV 3) aNil)) (aCons (eCall c_lyndon_count (aCons (eV 3) (aCons (eC (.int 2)) aNil))) aNil))) (aCons (eLst (aCons (eV 4) (aCons (eBlt dLen (aConsO (oV 4) aNil)) aNil))) aNil))))) (sRet (eC (.bl false))) sNil)
def P5 (c__law_drawn_word : List D → Int → ER) (c__law_drawn_index : List D → Int → ER) (c__law_same : List D → Int → ER) (c_is_lyndon : List D → Int → ER) (c__law_is_lyndon : List D → Int → ER) (c_fall_of : List D → Int → ER) (c__law_fall : List D → Int → ER) (c_counts_of : List D → Int → ER) (c__law_take : List D → Int → ER) (c__law_words : List D → Int → ER) (c_lyndon_words : List D → Int → ER) (c_lyndon_count : List D → Int → ER) (c_lyndon_indices : List D → Int → ER) (c__law_indices : List D → Int → ER) (c__law_moebius : List D → Int → ER) (c__law_power : List D → Int → ER) (c_moebius : List D → Int → ER) (c_divisors : List D → Int → ER) : SM := (sIf (cNot (cE (eCall c__law_same (aCons (eCall c_lyndon_indices (aCons (eV 3) aNil)) (aCons (eComp [12] (iAny (oE (eCall c__law_indices (aCons (eV 3) aNil)))) (bName 12) (cE (eCall c__law_is_lyndon (aCons (eV 12) aNil))) (eV 12)) aNil))))) (sRet (eC (.bl false))) sNil)
def P6 (c__law_drawn_word : List D → Int → ER) (c__law_drawn_index : List D → Int → ER) (c__law_same : List D → Int → ER) (c_is_lyndon : List D → Int → ER) (c__law_is_lyndon : List D → Int → ER) (c_fall_of : List D → Int → ER) (c__law_fall : List D → Int → ER) (c_counts_of : List D → Int → ER) (c__law_take : List D → Int → ER) (c__law_words : List D → Int → ER) (c_lyndon_words : List D → Int → ER) (c_lyndon_count : List D → Int → ER) (c_lyndon_indices : List D → Int → ER) (c__law_indices : List D → Int → ER) (c__law_moebius : List D → Int → ER) (c__law_power : List D → Int → ER) (c_moebius : List D → Int → ER) (c_divisors : List D → Int → ER) : SM := (sSet 5 (mBin fAdd (oE (eC (.int 1))) (oE (eCall c__law_take (aCons (eV 1) (aCons (eC (.int 4)) aNil))))))
def P7 (c__law_drawn_word : List D → Int → ER) (c__law_drawn_index : List D → Int → ER) (c__law_same : List D → Int → ER) (c_is_lyndon : List D → Int → ER) (c__law_is_lyndon : List D → Int → ER) (c_fall_of : List D → Int → ER) (c__law_fall : List D → Int → ER) (c_counts_of : List D → Int → ER) (c__law_take : List D → Int → ER) (c__law_words : List D → Int → ER) (c_lyndon_words : List D → Int → ER) (c_lyndon_count : List D → Int → ER) (c_lyndon_indices : List D → Int → ER) (c__law_indices : List D → Int → ER) (c__law_moebius : List D → Int → ER) (c__law_power : List D → Int → ER) (c_moebius : List D → Int → ER) (c_divisors : List D → Int → ER) : SM := (sSet 6 (eBlt dSum (aConsO (oE (eComp [11] (iRg2 (aCons (eC (.int 1)) (aCons (mBin fAdd (oV 3) (oE (eC (.int 1)))) aNil))) (bName 11) (cCmp fEq (oE (mBin dMod (oV 3) (oV 11))) (oE (eC (.int 0)))) (mBin dMul (oE (eCall c__law_moebius (aCons (eV 11) aNil))) (oE (eCall c__law_power (aCons (eV 5) (aCons (mBin dDiv (oV 3) (oV 11)) aNil))))))) aNil)))
def P8 (c__law_drawn_word : List D → Int → ER) (c__law_drawn_index : List D → Int → ER) (c__law_same : List D → Int → ER) (c_is_lyndon : List D → Int → ER) (c__law_is_lyndon : List D → Int → ER) (c_fall_of : List D → Int → ER) (c__law_fall : List D → Int → ER) (c_counts_of : List D → Int → ER) (c__law_take : List D → Int → ER) (c__law_words : List D → Int → ER) (c_lyndon_words : List D → Int → ER) (c_lyndon_count : List D → Int → ER) (c_lyndon_indices : List D → Int → ER) (c__law_indices : List D → Int → ER) (c__law_moebius : List D → Int → ER) (c__law_power : List D → Int → ER) (c_moebius : List D → Int → ER) (c_divisors : List D → Int → ER) : SM := (sIf (cNot (cE (eCall c__law_same (aCons (mBin dMul (oE (eCall c_lyndon_count (aCons (eV 3) (aCons (eV 5) aNil)))) (oV 3)) (aCons (eV 6) aNil))))) (sRet (eC (.bl false))) sNil)
def P9 (c__law_drawn_word : List D → Int → ER) (c__law_drawn_index : List D → Int → ER) (c__law_same : List D → Int → ER) (c_is_lyndon : List D → Int → ER) (c__law_is_lyndon : List D → Int → ER) (c_fall_of : List D → Int → ER) (c__law_fall : List D → Int → ER) (c_counts_of : List D → Int → ER) (c__law_take : List D → Int → ER) (c__law_words : List D → Int → ER) (c_lyndon_words : List D → Int → ER) (c_lyndon_count : List D → Int → ER) (c_lyndon_indices : List D → Int → ER) (c__law_indices : List D → Int → ER) (c__law_moebius : List D → Int → ER) (c__law_power : List D → Int → ER) (c_moebius : List D → Int → ER) (c_divisors : List D → Int → ER) : SM := (sSet 7 (mBin fAdd (oE (eC (.int 1))) (oE (eCall c__law_take (aCons (eV 1) (aCons (eC (.int 60)) aNil))))))
def P10 (c__law_drawn_word : List D → Int → ER) (c__law_drawn_index : List D → Int → ER) (c__law_same : List D → Int → ER) (c_is_lyndon : List D → Int → ER) (c__law_is_lyndon : List D → Int → ER) (c_fall_of : List D → Int → ER) (c__law_fall : List D → Int → ER) (c_counts_of : List D → Int → ER) (c__law_take : List D → Int → ER) (c__law_words : List D → Int → ER) (c_lyndon_words : List D → Int → ER) (c_lyndon_count : List D → Int → ER) (c_lyndon_indices : List D → Int → ER) (c__law_indices : List D → Int → ER) (c__law_moebius : List D → Int → ER) (c__law_power : List D → Int → ER) (c_moebius : List D → Int → ER) (c_divisors : List D → Int → ER) : SM := (sRet (eCall c__law_same (aCons (eLst (aCons (eCall c_moebius (aCons (eV 7) aNil)) (aCons (eCall c_divisors (aCons (eV 7) aNil)) aNil))) (aCons (eLst (aCons (eCall c__law_moebius (aCons (eV 7) aNil)) (aCons (eComp [11] (iRg2 (aCons (eC (.int 1)) (aCons (mBin fAdd (oV 7) (oE (eC (.int 1)))) aNil))) (bName 11) (cCmp fEq (oE (mBin dMod (oV 7) (oV 11))) (oE (eC (.int 0)))) (eV 11)) aNil))) aNil))))
def MR (c__law_drawn_word : List D → Int → ER) (c__law_drawn_index : List D → Int → ER) (c__law_same : List D → Int → ER) (c_is_lyndon : List D → Int → ER) (c__law_is_lyndon : List D → Int → ER) (c_fall_of : List D → Int → ER) (c__law_fall : List D → Int → ER) (c_counts_of : List D → Int → ER) (c__law_take : List D → Int → ER) (c__law_words : List D → Int → ER) (c_lyndon_words : List D → Int → ER) (c_lyndon_count : List D → Int → ER) (c_lyndon_indices : List D → Int → ER) (c__law_indices : List D → Int → ER) (c__law_moebius : List D → Int → ER) (c__law_power : List D → Int → ER) (c_moebius : List D → Int → ER) (c_divisors : List D → Int → ER) : SM := (sSeq (P1 c__law_drawn_word c__law_drawn_index c__law_same c_is_lyndon c__law_is_lyndon c_fall_of c__law_fall c_counts_of c__law_take c__law_words c_lyndon_words c_lyndon_count c_lyndon_indices c__law_indices c__law_moebius c__law_power c_moebius c_divisors) (sSeq (P2 c__law_drawn_word c__law_drawn_index c__law_same c_is_lyndon c__law_is_lyndon c_fall_of c__law_fall c_counts_of c__law_take c__law_words c_lyndon_words c_lyndon_count c_lyndon_indices c__law_indices c__law_moebius c__law_power c_moebius c_divisors) (sSeq (P3 c__law_drawn_word c__law_drawn_index c__law_same c_is_lyndon c__law_is_lyndon c_fall_of c__law_fall c_counts_of c__law_take c__law_words c_lyndon_words c_lyndon_count c_lyndon_indices c__law_indices c__law_moebius c__law_power c_moebius c_divisors) (sSeq (P4 c__law_drawn_word c__law_drawn_index c__law_same c_is_lyndon c__law_is_lyndon c_fall_of c__law_fall c_counts_of c__law_take c__law_words c_lyndon_words c_lyndon_count c_lyndon_indices c__law_indices c__law_moebius c__law_power c_moebius c_divisors) (sSeq (P5 c__law_drawn_word c__law_drawn_index c__law_same c_is_lyndon c__law_is_lyndon c_fall_of c__law_fall c_counts_of c__law_take c__law_words c_lyndon_words c_lyndon_count c_lyndon_indices c__law_indices c__law_moebius c__law_power c_moebius c_divisors) (sSeq (P6 c__law_drawn_word c__law_drawn_index c__law_same c_is_lyndon c__law_is_lyndon c_fall_of c__law_fall c_counts_of c__law_take c__law_words c_lyndon_words c_lyndon_count c_lyndon_indices c__law_indices c__law_moebius c__law_power c_moebius c_divisors) (sSeq (P7 c__law_drawn_word c__law_drawn_index c__law_same c_is_lyndon c__law_is_lyndon c_fall_of c__law_fall c_counts_of c__law_take c__law_words c_lyndon_words c_lyndon_count c_lyndon_indices c__law_indices c__law_moebius c__law_power c_moebius c_divisors) (sSeq (P8 c__law_drawn_word c__law_drawn_index c__law_same c_is_lyndon c__law_is_lyndon c_fall_of c__law_fall c_counts_of c__law_take c__law_words c_lyndon_words c_lyndon_count c_lyndon_indices c__law_indices c__law_moebius c__law_power c_moebius c_divisors) (sSeq (P9 c__law_drawn_word c__law_drawn_index c__law_same c_is_lyndon c__law_is_lyndon c_fall_of c__law_fall c_counts_of c__law_take c__law_words c_lyndon_words c_lyndon_count c_lyndon_indices c__law_indices c__law_moebius c__law_power c_moebius c_divisors) (P10 c__law_drawn_word c__law_drawn_index c__law_same c_is_lyndon c__law_is_lyndon c_fall_of c__law_fall c_counts_of c__law_take c__law_words c_lyndon_words c_lyndon_count c_lyndon_indices c__law_indices c__law_moebius c__law_power c_moebius c_divisors))))))))))
abbrev MRn (n : Nat) : SM := MR (F__law_drawn_word n) (F__law_drawn_index n) (F__law_same n) (F_is_lyndon n) (F__law_is_lyndon n) (F_fall_of n) (F__law_fall n) (F_counts_of n) (F__law_take n) (F__law_words n) (F_lyndon_words n) (F_lyndon_count n) (F_lyndon_indices n) (F__law_indices n) (F__law_moebius n) (F__law_power n) (F_moebius n) (F_divisors n)
/-! ### the facts of the text -/
structure Tx (g : Gc) : Prop where
  z_bool : g.mg "bool" = none
  z_dict : g.mg "dict" = none
  z_int : g.mg "int" = none
  z_isinstance : g.mg "isinstance" = none
  z_len : g.mg "len" = none
  z_list : g.mg "list" = none
  z_max : g.mg "max" = none
  z_range : g.mg "range" = none
  z_sorted : g.mg "sorted" = none
  z_str : g.mg "str" = none
  z_sum : g.mg "sum" = none
  z_tuple : g.mg "tuple" = none
  d_divisors : DefAt g "divisors" s_divisors ["number"]
  d_moebius : DefAt g "moebius" s_moebius ["number"]
  d_all_indices : DefAt g "all_indices" s_all_indices ["size"]
  d_all_words : DefAt g "all_words" s_all_words ["length"]
  d_is_lyndon : DefAt g "is_lyndon" s_is_lyndon ["row"]
  d_lyndon_words : DefAt g "lyndon_words" s_lyndon_words ["length"]
  d_lyndon_indices : DefAt g "lyndon_indices" s_lyndon_indices ["size"]
  d_power : DefAt g "power" s_power ["number", "count"]
  d_lyndon_count : DefAt g "lyndon_count" s_lyndon_count ["length", "letters"]
  d_longest_lyndon : DefAt g "longest_lyndon" s_longest_lyndon ["row", "start"]
  d_fall_of : DefAt g "fall_of" s_fall_of ["row"]
  d_counts_of : DefAt g "counts_of" s_counts_of ["rows"]
  d__law_cell : DefAt g "_law_cell" s__law_cell ["script", "k"]
  d__law_big : DefAt g "_law_big" s__law_big ["script", "at", "count"]
  d__law_take : DefAt g "_law_take" s__law_take ["state", "m"]
  d__law_same : DefAt g "_law_same" s__law_same ["told", "due"]
  d__law_power : DefAt g "_law_power" s__law_power ["number", "count"]
  d__law_indices : DefAt g "_law_indices" s__law_indices ["size"]
  d__law_admissible : DefAt g "_law_admissible" s__law_admissible ["size"]
  d__law_drawn_index : DefAt g "_law_drawn_index" s__law_drawn_index ["state", "most", "admissible"]
  d__law_drawn_word : DefAt g "_law_drawn_word" s__law_drawn_word ["state", "most"]
  d__law_words : DefAt g "_law_words" s__law_words ["length"]
  d__law_is_lyndon : DefAt g "_law_is_lyndon" s__law_is_lyndon ["row"]
  d__law_fall : DefAt g "_law_fall" s__law_fall ["row"]
  d__law_moebius : DefAt g "_law_moebius" s__law_moebius ["n"]
theorem Tx.at {g : Gc} (T : Tx g) (p : Addr) : Tx (g.at p) := ⟨T.z_bool, T.z_dict, T.z_int, T.z_isinstance, T.z_len, T.z_list, T.z_max, T.z_range, T.z_sorted, T.z_str, T.z_sum, T.z_tuple, T.d_divisors, T.d_moebius, T.d_all_indices, T.d_all_words, T.d_is_lyndon, T.d_lyndon_words, T.d_lyndon_indices, T.d_power, T.d_lyndon_count, T.d_longest_lyndon, T.d_fall_of, T.d_counts_of, T.d__law_cell, T.d__law_big, T.d__law_take, T.d__law_same, T.d__law_power, T.d__law_indices, T.d__law_admissible, T.d__law_drawn_index, T.d__law_drawn_word, T.d__law_words, T.d__law_is_lyndon, T.d__law_fall, T.d__law_moebius⟩
/-! ### each def keeps its promise -/
theorem ok_divisors {g : Gc} (T : Tx g) : ∀ n, HaveFn g n "divisors" (F_divisors n)
  | 0 => by obtain ⟨f, fd, h1, h2, h3⟩ := T.d_divisors; exact fn_zero h1 h2 h3
  | n + 1 => by
    obtain ⟨f, fd, h1, h2, h3⟩ := T.d_divisors
    refine fn_ok 1 h1 sc_divisors h2 h3 rfl fun cdv A outer s H E hr => ?_
    have hX : Of (cxOf CX0 g.P g.w g.K g.mg g.base N_divisors "divisors" (defScope s_divisors) f cdv A outer s H E).nox g := ⟨rfl, rfl, rfl, rfl, rfl, rfl⟩
    exact (ss_one (ss_ret (ee_lc hX sc_divisors.nd (Parts.mk (own := [("part", 1)]) (ie_rg2 hX T.z_range (ae_cons ee_int (ae_cons (ee_binX (bin_fAdd hX) (oe_var 0) (oe_of ee_int)) ae_nil))) (blkOk_by (by show blkC N_divisors (defScope s_divisors) _ _ = true; decide +kernel)) (fun _ _ _ _ _ => (ge_name 1 sc_divisors.nd)) (fun _ _ _ _ _ => (cts_one (ce_cmpX (cmp_fEq (Of.blk hX) (hu_of64 hr)) (oe_of (ee_binX (bin_mod (Of.blk hX)) (oe_var 0) (oe_var 1))) (oe_of ee_int) (nomark _)))) (fun _ _ _ _ _ => (ee_var 1)) (by decide)))))
theorem ok_moebius {g : Gc} (T : Tx g) : ∀ n, HaveFn g n "moebius" (F_moebius n)
  | 0 => by obtain ⟨f, fd, h1, h2, h3⟩ := T.d_moebius; exact fn_zero h1 h2 h3
  | n + 1 => by
    obtain ⟨f, fd, h1, h2, h3⟩ := T.d_moebius
    refine fn_ok 2 h1 sc_moebius h2 h3 rfl fun cdv A outer s H E hr => ?_
    have hX : Of (cxOf CX0 g.P g.w g.K g.mg g.base N_moebius "moebius" (defScope s_moebius) f cdv A outer s H E).nox g := ⟨rfl, rfl, rfl, rfl, rfl, rfl⟩
    exact (ss_cons (ss_set 1 ee_int sc_moebius.nd) (ss_cons (ss_set 2 ee_int sc_moebius.nd) (ss_cons (ss_while wFuel PassesOwn.never (ce_cmpX (cmp_fGt hX (hu_of64 hr)) (oe_var 0) (oe_of ee_int) (nomark _)) (ss_cons (ss_if (ce_cmpX (cmp_fEq hX (hu_of64 hr)) (oe_of (ee_binX (bin_mod hX) (oe_var 0) (oe_var 2))) (oe_of ee_int) (nomark _)) (ss_cons (ss_augX 0 (ip_divG hX) (oe_var 2) sc_moebius.nd) (ss_cons (ss_set 1 (ee_neg (oe_var 1)) sc_moebius.nd) (ss_one (ss_if (ce_cmpX (cmp_fEq hX (hu_of64 hr)) (oe_of (ee_binX (bin_mod hX) (oe_var 0) (oe_var 2))) (oe_of ee_int) (nomark _)) (ss_one (ss_ret ee_int)) ss_nil)))) ss_nil) (ss_one (ss_augX 2 (ip_addG hX) (oe_of ee_int) sc_moebius.nd)))) (ss_one (ss_ret (ee_var 1))))))
theorem ok_all_indices {g : Gc} (T : Tx g) : ∀ n, HaveFn g n "all_indices" (F_all_indices n)
  | 0 => by obtain ⟨f, fd, h1, h2, h3⟩ := T.d_all_indices; exact fn_zero h1 h2 h3
  | n + 1 => by
    have h_all_indices := ok_all_indices T n
    obtain ⟨f, fd, h1, h2, h3⟩ := T.d_all_indices
    refine fn_ok 3 h1 sc_all_indices h2 h3 rfl fun cdv A outer s H E hr => ?_
    have hX : Of (cxOf CX0 g.P g.w g.K g.mg g.base N_all_indices "all_indices" (defScope s_all_indices) f cdv A outer s H E).nox g := ⟨rfl, rfl, rfl, rfl, rfl, rfl⟩
    exact (ss_cons (ss_if (ce_cmpX (cmp_fEq hX (hu_of64 hr)) (oe_var 0) (oe_of ee_int) (nomark _)) (ss_one (ss_ret (ee_lst (ae_cons (ee_tup ae_nil) ae_nil)))) ss_nil) (ss_cons (ss_setO 1 (ee_lst ae_nil) sc_all_indices.nd) (ss_cons (ss_for hX PassesOwn.never (ie_rg2 hX T.z_range (ae_cons ee_int (ae_cons (ee_binX (bin_fAdd hX) (oe_var 0) (oe_of ee_int)) ae_nil))) (ge_name 2 sc_all_indices.nd) (ss_one (ss_ext 1 (oe_of (ee_lc hX sc_all_indices.nd (Parts.mk (own := [("rest", 3)]) (ie_any hX (oe_of (ee_call hX hr h_all_indices (ae_cons (ee_binX (bin_sub hX) (oe_var 0) (oe_var 2)) ae_nil)))) (blkOk_by (by show blkC N_all_indices (defScope s_all_indices) _ _ = true; decide +kernel)) (fun _ _ _ _ _ => (ge_name 3 sc_all_indices.nd)) (fun _ _ _ _ _ => cts_nil) (fun _ _ _ _ _ => (ee_binX (bin_fAdd (Of.blk hX)) (oe_of (ee_tup (ae_cons (ee_var 2) ae_nil))) (oe_var 3))) (by decide))))))) (ss_one (ss_retO 1 rfl)))))
theorem ok_all_words {g : Gc} (T : Tx g) : ∀ n, HaveFn g n "all_words" (F_all_words n)
  | 0 => by obtain ⟨f, fd, h1, h2, h3⟩ := T.d_all_words; exact fn_zero h1 h2 h3
  | n + 1 => by
    obtain ⟨f, fd, h1, h2, h3⟩ := T.d_all_words
    refine fn_ok 4 h1 sc_all_words h2 h3 rfl fun cdv A outer s H E hr => ?_
    have hX : Of (cxOf CX0 g.P g.w g.K g.mg g.base N_all_words "all_words" (defScope s_all_words) f cdv A outer s H E).nox g := ⟨rfl, rfl, rfl, rfl, rfl, rfl⟩
    exact (ss_cons (ss_set 1 (ee_lst (ae_cons ee_str ae_nil)) sc_all_words.nd) (ss_cons (ss_for hX PassesOwn.never (ie_rg1 hX T.z_range (ae_cons (ee_var 0) ae_nil)) (ge_name 2 sc_all_words.nd) (ss_one (ss_setLc2 1 hX sc_all_words.nd (Parts2.mk (own := [("word", 3), ("sign", 4)]) (vs1 := [4]) (ie_any hX (oe_var 1)) (blkOk_by (by show blkC N_all_words (defScope s_all_words) _ _ = true; decide +kernel)) (fun _ _ _ _ _ => (ge_name 3 sc_all_words.nd)) (fun _ _ _ _ _ => cts_nil) (fun _ _ _ _ _ => (ie_anyF (Of.blk hX) ee_str)) (fun _ _ _ _ _ => (ge_name 4 sc_all_words.nd)) (fun _ _ _ _ _ => cts_nil) (fun _ _ _ _ _ => (ee_binX (bin_fAdd (Of.blk hX)) (oe_var 3) (oe_var 4))) (by decide) (by decide) (by decide)) (sw_true rfl rfl rfl (by decide +kernel))))) (ss_one (ss_ret (ee_var 1)))))
theorem ok_is_lyndon {g : Gc} (T : Tx g) : ∀ n, HaveFn g n "is_lyndon" (F_is_lyndon n)
  | 0 => by obtain ⟨f, fd, h1, h2, h3⟩ := T.d_is_lyndon; exact fn_zero h1 h2 h3
  | n + 1 => by
    obtain ⟨f, fd, h1, h2, h3⟩ := T.d_is_lyndon
    refine fn_ok 1 h1 sc_is_lyndon h2 h3 rfl fun cdv A outer s H E hr => ?_
    have hX : Of (cxOf CX0 g.P g.w g.K g.mg g.base N_is_lyndon "is_lyndon" (defScope s_is_lyndon) f cdv A outer s H E).nox g := ⟨rfl, rfl, rfl, rfl, rfl, rfl⟩
    exact (ss_cons (ss_if (ce_cmpX (cmp_fEq hX (hu_of64 hr)) (oe_of (ee_bltX (blt_len hX) hX T.z_len PySem.boot_len (ao_cons (oe_var 0) ao_nil))) (oe_of ee_int) (nomark _)) (ss_one (ss_ret ee_bl)) ss_nil) (ss_one (ss_ret (ee_cmpX (cmp_fEq hX (hu_of64 hr)) (oe_of (ee_lc hX sc_is_lyndon.nd (Parts.mk (own := [("place", 1)]) (ie_rg2 hX T.z_range (ae_cons ee_int (ae_cons (ee_bltX (blt_len hX) hX T.z_len PySem.boot_len (ao_cons (oe_var 0) ao_nil)) ae_nil))) (blkOk_by (by show blkC N_is_lyndon (defScope s_is_lyndon) _ _ = true; decide +kernel)) (fun _ _ _ _ _ => (ge_name 1 sc_is_lyndon.nd)) (fun _ _ _ _ _ => (cts_one (ce_not (ce_cmpX (cmp_fLt (Of.blk hX) (hu_of64 hr)) (oe_var 0) (oe_of (ee_cut (Of.blk hX) (oe_var 0) (po_so (oe_var 1)) po_no)) (nomark _))))) (fun _ _ _ _ _ => (ee_var 1)) (by decide)))) (oe_of (ee_lst ae_nil)) (nomark _)))))
theorem ok_lyndon_words {g : Gc} (T : Tx g) : ∀ n, HaveFn g n "lyndon_words" (F_lyndon_words n)
  | 0 => by obtain ⟨f, fd, h1, h2, h3⟩ := T.d_lyndon_words; exact fn_zero h1 h2 h3
  | n + 1 => by
    have h_all_words := ok_all_words T n
    have h_is_lyndon := ok_is_lyndon T n
    obtain ⟨f, fd, h1, h2, h3⟩ := T.d_lyndon_words
    refine fn_ok 1 h1 sc_lyndon_words h2 h3 rfl fun cdv A outer s H E hr => ?_
    have hX : Of (cxOf CX0 g.P g.w g.K g.mg g.base N_lyndon_words "lyndon_words" (defScope s_lyndon_words) f cdv A outer s H E).nox g := ⟨rfl, rfl, rfl, rfl, rfl, rfl⟩
    exact (ss_one (ss_ret (ee_lc hX sc_lyndon_words.nd (Parts.mk (own := [("word", 1)]) (ie_any hX (oe_of (ee_call hX hr h_all_words (ae_cons (ee_var 0) ae_nil)))) (blkOk_by (by show blkC N_lyndon_words (defScope s_lyndon_words) _ _ = true; decide +kernel)) (fun _ _ _ _ _ => (ge_name 1 sc_lyndon_words.nd)) (fun _ _ _ _ _ => (cts_one (ce_val (ee_call (Of.blk hX) hr h_is_lyndon (ae_cons (ee_var 1) ae_nil))))) (fun _ _ _ _ _ => (ee_var 1)) (by decide)))))
theorem ok_lyndon_indices {g : Gc} (T : Tx g) : ∀ n, HaveFn g n "lyndon_indices" (F_lyndon_indices n)
  | 0 => by obtain ⟨f, fd, h1, h2, h3⟩ := T.d_lyndon_indices; exact fn_zero h1 h2 h3
  | n + 1 => by
    have h_all_indices := ok_all_indices T n
    have h_is_lyndon := ok_is_lyndon T n
    obtain ⟨f, fd, h1, h2, h3⟩ := T.d_lyndon_indices
    refine fn_ok 1 h1 sc_lyndon_indices h2 h3 rfl fun cdv A outer s H E hr => ?_
    have hX : Of (cxOf CX0 g.P g.w g.K g.mg g.base N_lyndon_indices "lyndon_indices" (defScope s_lyndon_indices) f cdv A outer s H E).nox g := ⟨rfl, rfl, rfl, rfl, rfl, rfl⟩
    exact (ss_one (ss_ret (ee_lc hX sc_lyndon_indices.nd (Parts.mk (own := [("index", 1)]) (ie_any hX (oe_of (ee_call hX hr h_all_indices (ae_cons (ee_var 0) ae_nil)))) (blkOk_by (by show blkC N_lyndon_indices (defScope s_lyndon_indices) _ _ = true; decide +kernel)) (fun _ _ _ _ _ => (ge_name 1 sc_lyndon_indices.nd)) (fun _ _ _ _ _ => (cts_one (ce_val (ee_call (Of.blk hX) hr h_is_lyndon (ae_cons (ee_var 1) ae_nil))))) (fun _ _ _ _ _ => (ee_var 1)) (by decide)))))
theorem ok_power {g : Gc} (T : Tx g) : ∀ n, HaveFn g n "power" (F_power n)
  | 0 => by obtain ⟨f, fd, h1, h2, h3⟩ := T.d_power; exact fn_zero h1 h2 h3
  | n + 1 => by
    obtain ⟨f, fd, h1, h2, h3⟩ := T.d_power
    refine fn_ok 2 h1 sc_power h2 h3 rfl fun cdv A outer s H E hr => ?_
    have hX : Of (cxOf CX0 g.P g.w g.K g.mg g.base N_power "power" (defScope s_power) f cdv A outer s H E).nox g := ⟨rfl, rfl, rfl, rfl, rfl, rfl⟩
    exact (ss_cons (ss_set 2 ee_int sc_power.nd) (ss_cons (ss_for hX PassesOwn.never (ie_rg1 hX T.z_range (ae_cons (ee_var 1) ae_nil)) (ge_name 3 sc_power.nd) (ss_one (ss_augX 2 (ip_mulG hX) (oe_var 0) sc_power.nd))) (ss_one (ss_ret (ee_var 2)))))
theorem ok_lyndon_count {g : Gc} (T : Tx g) : ∀ n, HaveFn g n "lyndon_count" (F_lyndon_count n)
  | 0 => by obtain ⟨f, fd, h1, h2, h3⟩ := T.d_lyndon_count; exact fn_zero h1 h2 h3
  | n + 1 => by
    have h_divisors := ok_divisors T n
    have h_moebius := ok_moebius T n
    have h_power := ok_power T n
    obtain ⟨f, fd, h1, h2, h3⟩ := T.d_lyndon_count
    refine fn_ok 1 h1 sc_lyndon_count h2 h3 rfl fun cdv A outer s H E hr => ?_
    have hX : Of (cxOf CX0 g.P g.w g.K g.mg g.base N_lyndon_count "lyndon_count" (defScope s_lyndon_count) f cdv A outer s H E).nox g := ⟨rfl, rfl, rfl, rfl, rfl, rfl⟩
    exact (ss_one (ss_ret (ee_binX (bin_div hX) (oe_of (ee_bltX (blt_sum hX) hX T.z_sum boot_sum (ao_cons (oe_of (ee_lc hX sc_lyndon_count.nd (Parts.mk (own := [("part", 2)]) (ie_any hX (oe_of (ee_call hX hr h_divisors (ae_cons (ee_var 0) ae_nil)))) (blkOk_by (by show blkC N_lyndon_count (defScope s_lyndon_count) _ _ = true; decide +kernel)) (fun _ _ _ _ _ => (ge_name 2 sc_lyndon_count.nd)) (fun _ _ _ _ _ => cts_nil) (fun _ _ _ _ _ => (ee_binX (bin_mul (Of.blk hX)) (oe_of (ee_call (Of.blk hX) hr h_moebius (ae_cons (ee_var 2) ae_nil))) (oe_of (ee_call (Of.blk hX) hr h_power (ae_cons (ee_var 1) (ae_cons (ee_binX (bin_div (Of.blk hX)) (oe_var 0) (oe_var 2)) ae_nil)))))) (by decide)))) ao_nil))) (oe_var 0))))
theorem ok_longest_lyndon {g : Gc} (T : Tx g) : ∀ n, HaveFn g n "longest_lyndon" (F_longest_lyndon n)
  | 0 => by obtain ⟨f, fd, h1, h2, h3⟩ := T.d_longest_lyndon; exact fn_zero h1 h2 h3
  | n + 1 => by
    have h_is_lyndon := ok_is_lyndon T n
    obtain ⟨f, fd, h1, h2, h3⟩ := T.d_longest_lyndon
    refine fn_ok 2 h1 sc_longest_lyndon h2 h3 rfl fun cdv A outer s H E hr => ?_
    have hX : Of (cxOf CX0 g.P g.w g.K g.mg g.base N_longest_lyndon "longest_lyndon" (defScope s_longest_lyndon) f cdv A outer s H E).nox g := ⟨rfl, rfl, rfl, rfl, rfl, rfl⟩
    exact (ss_cons (ss_set 2 (ee_binX (bin_fAdd hX) (oe_var 1) (oe_of ee_int)) sc_longest_lyndon.nd) (ss_cons (ss_for hX PassesOwn.never (ie_rg2 hX T.z_range (ae_cons (ee_binX (bin_fAdd hX) (oe_var 1) (oe_of ee_int)) (ae_cons (ee_binX (bin_fAdd hX) (oe_of (ee_bltX (blt_len hX) hX T.z_len PySem.boot_len (ao_cons (oe_var 0) ao_nil))) (oe_of ee_int)) ae_nil))) (ge_name 3 sc_longest_lyndon.nd) (ss_one (ss_if (ce_val (ee_call hX hr h_is_lyndon (ae_cons (ee_cut hX (oe_var 0) (po_so (oe_var 1)) (po_so (oe_var 3))) ae_nil))) (ss_one (ss_set 2 (ee_var 3) sc_longest_lyndon.nd)) ss_nil))) (ss_one (ss_ret (ee_var 2)))))
theorem ok_fall_of {g : Gc} (T : Tx g) : ∀ n, HaveFn g n "fall_of" (F_fall_of n)
  | 0 => by obtain ⟨f, fd, h1, h2, h3⟩ := T.d_fall_of; exact fn_zero h1 h2 h3
  | n + 1 => by
    have h_longest_lyndon := ok_longest_lyndon T n
    obtain ⟨f, fd, h1, h2, h3⟩ := T.d_fall_of
    refine fn_ok 3 h1 sc_fall_of h2 h3 rfl fun cdv A outer s H E hr => ?_
    have hX : Of (cxOf CX0 g.P g.w g.K g.mg g.base N_fall_of "fall_of" (defScope s_fall_of) f cdv A outer s H E).nox g := ⟨rfl, rfl, rfl, rfl, rfl, rfl⟩
    exact (ss_cons (ss_setO 1 (ee_lst ae_nil) sc_fall_of.nd) (ss_cons (ss_set 2 ee_int sc_fall_of.nd) (ss_cons (ss_while wFuel PassesOwn.never (ce_cmpX (cmp_fLt hX (hu_of64 hr)) (oe_var 2) (oe_of (ee_bltX (blt_len hX) hX T.z_len PySem.boot_len (ao_cons (oe_var 0) ao_nil))) (nomark _)) (ss_cons (ss_set 3 (ee_call hX hr h_longest_lyndon (ae_cons (ee_var 0) (ae_cons (ee_var 2) ae_nil))) sc_fall_of.nd) (ss_cons (ss_app 1 (ee_cut hX (oe_var 0) (po_so (oe_var 2)) (po_so (oe_var 3)))) (ss_one (ss_set 2 (ee_var 3) sc_fall_of.nd))))) (ss_one (ss_retO 1 rfl)))))
theorem ok_counts_of {g : Gc} (T : Tx g) : ∀ n, HaveFn g n "counts_of" (F_counts_of n)
  | 0 => by obtain ⟨f, fd, h1, h2, h3⟩ := T.d_counts_of; exact fn_zero h1 h2 h3
  | n + 1 => by
    obtain ⟨f, fd, h1, h2, h3⟩ := T.d_counts_of
    refine fn_ok 2 h1 sc_counts_of h2 h3 rfl fun cdv A outer s H E hr => ?_
    have hX : Of (cxOf CX0 g.P g.w g.K g.mg g.base N_counts_of "counts_of" (defScope s_counts_of) f cdv A outer s H E).nox g := ⟨rfl, rfl, rfl, rfl, rfl, rfl⟩
    exact (ss_cons (ss_setO 1 (ee_lst ae_nil) sc_counts_of.nd) (ss_cons (ss_for hX PassesOwn.never (ie_anyF hX (ee_var 0)) (ge_name 2 sc_counts_of.nd) (ss_one (ss_if (CW.ce (cw_and (ce_cmpX (cmp_fNe hX (hu_of64 hr)) (oe_var 1) (oe_of (ee_lst ae_nil)) (nomark _)) (cw_and1 (ce_cmpX (cmp_fEq hX (hu_of64 hr)) (oe_of (ee_ixX (ix_ok hX) (oe_of (ee_ixX (ix_ok hX) (oe_var 1) (oe_of (ee_neg (oe_of ee_int))) (fun _ _ => rfl))) (oe_of ee_int) (fun _ _ => rfl))) (oe_var 2) (nomark _))))) (ss_one (ss_setIx 1 (ee_tup (ae_cons (ee_var 2) (ae_cons (ee_binX (bin_fAdd hX) (oe_of (ee_ixX (ix_ok hX) (oe_of (ee_ixX (ix_ok hX) (oe_var 1) (oe_of (ee_neg (oe_of ee_int))) (fun _ _ => rfl))) (oe_of ee_int) (fun _ _ => rfl))) (oe_of ee_int)) ae_nil))) (oe_of (ee_neg (oe_of ee_int))))) (ss_one (ss_app 1 (ee_tup (ae_cons (ee_var 2) (ae_cons ee_int ae_nil)))))))) (ss_one (ss_retO 1 rfl))))
theorem ok__law_cell {g : Gc} (T : Tx g) : ∀ n, HaveFn g n "_law_cell" (F__law_cell n)
  | 0 => by obtain ⟨f, fd, h1, h2, h3⟩ := T.d__law_cell; exact fn_zero h1 h2 h3
  | n + 1 => by
    obtain ⟨f, fd, h1, h2, h3⟩ := T.d__law_cell
    refine fn_ok 1 h1 sc__law_cell h2 h3 rfl fun cdv A outer s H E hr => ?_
    have hX : Of (cxOf CX0 g.P g.w g.K g.mg g.base N__law_cell "_law_cell" (defScope s__law_cell) f cdv A outer s H E).nox g := ⟨rfl, rfl, rfl, rfl, rfl, rfl⟩
    exact (ss_cons (ss_if (CW.ce (cw_and (ce_cmpX (cmp_fLt hX (hu_of64 hr)) (oe_var 1) (oe_of (ee_bltX (blt_len hX) hX T.z_len PySem.boot_len (ao_cons (oe_var 0) ao_nil))) (nomark _)) (cw_and1 (ce_cmpX (cmp_fGe hX (hu_of64 hr)) (oe_of (ee_ixX (ix_ok hX) (oe_var 0) (oe_var 1) (fun _ _ => rfl))) (oe_of (ee_binX (bin_pow hX) (oe_of ee_int) (oe_of ee_int))) (nomark _))))) (ss_one (ss_ret (ee_ixX (ix_ok hX) (oe_var 0) (oe_var 1) (fun _ _ => rfl)))) ss_nil) (ss_cons (ss_set 2 (ee_binX (bin_fAdd hX) (oe_of (ee_binX (bin_mul hX) (oe_of ee_int) (oe_var 1))) (oe_of ee_int)) sc__law_cell.nd) (ss_cons (ss_if (ce_cmpX (cmp_fGt hX (hu_of64 hr)) (oe_of (ee_bltX (blt_len hX) hX T.z_len PySem.boot_len (ao_cons (oe_var 0) ao_nil))) (oe_of ee_int) (nomark _)) (ss_one (ss_set 2 (ee_binX (bin_fAdd hX) (oe_var 2) (oe_of (ee_binX (bin_mul hX) (oe_of ee_int) (oe_of (ee_ixX (ix_ok hX) (oe_var 0) (oe_of (ee_binX (bin_mod hX) (oe_of (ee_bltTyX (blt_int hX) hX T.z_int PyProof.Rows.boot_int (ao_cons (oe_var 1) ao_nil))) (oe_of (ee_bltX (blt_len hX) hX T.z_len PySem.boot_len (ao_cons (oe_var 0) ao_nil))))) (fun _ _ => rfl)))))) sc__law_cell.nd)) ss_nil) (ss_cons (ss_set 2 (ee_binX (bin_mod hX) (oe_of (ee_bltTyX (blt_int hX) hX T.z_int PyProof.Rows.boot_int (ao_cons (oe_of (ee_binX (bin_fAdd hX) (oe_of (ee_binX (bin_mul hX) (oe_var 2) (oe_of ee_int))) (oe_of (ee_binX (bin_mul hX) (oe_of ee_int) (oe_var 1))))) ao_nil))) (oe_of ee_int)) sc__law_cell.nd) (ss_one (ss_ret (ee_binX (bin_mod hX) (oe_of (ee_bltTyX (blt_int hX) hX T.z_int PyProof.Rows.boot_int (ao_cons (oe_of (ee_binX (bin_fAdd hX) (oe_of (ee_binX (bin_mul hX) (oe_var 2) (oe_var 2))) (oe_of (ee_binX (bin_mul hX) (oe_of ee_int) (oe_of (ee_binX (bin_div hX) (oe_var 2) (oe_of ee_int))))))) ao_nil))) (oe_of ee_int))))))))
theorem ok__law_big {g : Gc} (T : Tx g) : ∀ n, HaveFn g n "_law_big" (F__law_big n)
  | 0 => by obtain ⟨f, fd, h1, h2, h3⟩ := T.d__law_big; exact fn_zero h1 h2 h3
  | n + 1 => by
    have h__law_cell := ok__law_cell T n
    obtain ⟨f, fd, h1, h2, h3⟩ := T.d__law_big
    refine fn_ok 2 h1 sc__law_big h2 h3 rfl fun cdv A outer s H E hr => ?_
    have hX : Of (cxOf CX0 g.P g.w g.K g.mg g.base N__law_big "_law_big" (defScope s__law_big) f cdv A outer s H E).nox g := ⟨rfl, rfl, rfl, rfl, rfl, rfl⟩
    exact (ss_cons (ss_set 3 ee_int sc__law_big.nd) (ss_cons (ss_for hX PassesOwn.never (ie_rg1 hX T.z_range (ae_cons (ee_var 2) ae_nil)) (ge_name 4 sc__law_big.nd) (ss_one (ss_set 3 (ee_binX (bin_fAdd hX) (oe_of (ee_binX (bin_mul hX) (oe_var 3) (oe_of ee_int))) (oe_of (ee_call hX hr h__law_cell (ae_cons (ee_var 0) (ae_cons (ee_binX (bin_fAdd hX) (oe_var 1) (oe_var 4)) ae_nil))))) sc__law_big.nd))) (ss_one (ss_ret (ee_lst (ae_cons (ee_var 3) ae_nil))))))
theorem ok__law_take {g : Gc} (T : Tx g) : ∀ n, HaveFn g n "_law_take" (F__law_take n)
  | 0 => by obtain ⟨f, fd, h1, h2, h3⟩ := T.d__law_take; exact fn_zero h1 h2 h3
  | n + 1 => by
    obtain ⟨f, fd, h1, h2, h3⟩ := T.d__law_take
    refine fn_ok 1 h1 sc__law_take h2 h3 rfl fun cdv A outer s H E hr => ?_
    have hX : Of (cxOf CX0 g.P g.w g.K g.mg g.base N__law_take "_law_take" (defScope s__law_take) f cdv A outer s H E).nox g := ⟨rfl, rfl, rfl, rfl, rfl, rfl⟩
    exact (ss_cons (ss_set 2 (ee_binX (bin_mod hX) (oe_of (ee_bltTyX (blt_int hX) hX T.z_int PyProof.Rows.boot_int (ao_cons (oe_of (ee_cell hX 0)) ao_nil))) (oe_var 1)) sc__law_take.nd) (ss_cons (ss_cell hX 0 (ee_bltTyX (blt_int hX) hX T.z_int PyProof.Rows.boot_int (ao_cons (oe_of (ee_binX (bin_div hX) (oe_of (ee_cell hX 0)) (oe_var 1))) ao_nil))) (ss_one (ss_ret (ee_var 2)))))
theorem ok__law_same {g : Gc} (T : Tx g) : ∀ n, HaveFn g n "_law_same" (F__law_same n)
  | 0 => by obtain ⟨f, fd, h1, h2, h3⟩ := T.d__law_same; exact fn_zero h1 h2 h3
  | n + 1 => by
    have h__law_same := ok__law_same T n
    obtain ⟨f, fd, h1, h2, h3⟩ := T.d__law_same
    refine fn_ok 2 h1 sc__law_same h2 h3 rfl fun cdv A outer s H E hr => ?_
    have hX : Of (cxOf CX0 g.P g.w g.K g.mg g.base N__law_same "_law_same" (defScope s__law_same) f cdv A outer s H E).nox g := ⟨rfl, rfl, rfl, rfl, rfl, rfl⟩
    exact (ss_cons (ss_if (CW.ce (cw_or (ce_val (ee_isi (T := "list") hX T.z_isinstance T.z_list (by decide) (by decide +kernel) (oe_var 1))) (cw_or1 (ce_val (ee_isi (T := "tuple") hX T.z_isinstance T.z_tuple (by decide) (by decide +kernel) (oe_var 1)))))) (ss_cons (ss_if (CW.ce (cw_or (CW.ce (cw_and (ce_val (ee_isi (T := "list") hX T.z_isinstance T.z_list (by decide) (by decide +kernel) (oe_var 1))) (cw_and1 (ce_not (ce_val (ee_isi (T := "list") hX T.z_isinstance T.z_list (by decide) (by decide +kernel) (oe_var 0))))))) (cw_or1 (CW.ce (cw_and (ce_val (ee_isi (T := "tuple") hX T.z_isinstance T.z_tuple (by decide) (by decide +kernel) (oe_var 1))) (cw_and1 (ce_not (ce_val (ee_isi (T := "tuple") hX T.z_isinstance T.z_tuple (by decide) (by decide +kernel) (oe_var 0)))))))))) (ss_one (ss_ret ee_bl)) ss_nil) (ss_cons (ss_if (ce_cmpX (cmp_fNe hX (hu_of64 hr)) (oe_of (ee_bltX (blt_len hX) hX T.z_len PySem.boot_len (ao_cons (oe_var 0) ao_nil))) (oe_of (ee_bltX (blt_len hX) hX T.z_len PySem.boot_len (ao_cons (oe_var 1) ao_nil))) (nomark _)) (ss_one (ss_ret ee_bl)) ss_nil) (ss_one (ss_ret (ee_cmpX (cmp_fEq hX (hu_of64 hr)) (oe_of (ee_lc hX sc__law_same.nd (Parts.mk (own := [("k", 2)]) (ie_rg1 hX T.z_range (ae_cons (ee_bltX (blt_len hX) hX T.z_len PySem.boot_len (ao_cons (oe_var 1) ao_nil)) ae_nil)) (blkOk_by (by show blkC N__law_same (defScope s__law_same) _ _ = true; decide +kernel)) (fun _ _ _ _ _ => (ge_name 2 sc__law_same.nd)) (fun _ _ _ _ _ => (cts_one (ce_not (ce_val (ee_call (Of.blk hX) hr h__law_same (ae_cons (ee_ixX (ix_ok (Of.blk hX)) (oe_var 0) (oe_var 2) (fun _ _ => rfl)) (ae_cons (ee_ixX (ix_ok (Of.blk hX)) (oe_var 1) (oe_var 2) (fun _ _ => rfl)) ae_nil))))))) (fun _ _ _ _ _ => (ee_var 2)) (by decide)))) (oe_of (ee_lst ae_nil)) (nomark _)))))) ss_nil) (ss_cons (ss_if (ce_val (ee_isi (T := "dict") hX T.z_isinstance T.z_dict (by decide) (by decide +kernel) (oe_var 1))) (ss_cons (ss_if (CW.ce (cw_or (ce_not (ce_val (ee_isi (T := "dict") hX T.z_isinstance T.z_dict (by decide) (by decide +kernel) (oe_var 0)))) (cw_or1 (ce_cmpX (cmp_fNe hX (hu_of64 hr)) (oe_of (ee_bltX (blt_len hX) hX T.z_len PySem.boot_len (ao_cons (oe_var 0) ao_nil))) (oe_of (ee_bltX (blt_len hX) hX T.z_len PySem.boot_len (ao_cons (oe_var 1) ao_nil))) (nomark _))))) (ss_one (ss_ret ee_bl)) ss_nil) (ss_one (ss_ret (ee_cmpX (cmp_fEq hX (hu_of64 hr)) (oe_of (ee_lc hX sc__law_same.nd (Parts.mk (own := [("key", 3)]) (ie_any hX (oe_var 1)) (blkOk_by (by show blkC N__law_same (defScope s__law_same) _ _ = true; decide +kernel)) (fun _ _ _ _ _ => (ge_name 3 sc__law_same.nd)) (fun _ _ _ _ _ => (cts_one (CW.ce (cw_or (ce_cmpX (cmp_fNotIn (Of.blk hX) (hu_of65 hr)) (oe_var 3) (oe_var 0) (by rfl)) (cw_or1 (ce_not (ce_val (ee_call (Of.blk hX) hr h__law_same (ae_cons (ee_ixX (ix_ok (Of.blk hX)) (oe_var 0) (oe_var 3) (fun _ _ => rfl)) (ae_cons (ee_ixX (ix_ok (Of.blk hX)) (oe_var 1) (oe_var 3) (fun _ _ => rfl)) ae_nil)))))))))) (fun _ _ _ _ _ => (ee_var 3)) (by decide)))) (oe_of (ee_lst ae_nil)) (nomark _))))) ss_nil) (ss_cons (ss_if (ce_cmpX ⟨_, op_isN, cmp_isN⟩ (oe_var 1) (oe_of ee_non) (nomark _)) (ss_one (ss_ret (ee_cmpX ⟨_, op_isN, cmp_isN⟩ (oe_var 0) (oe_of ee_non) (nomark _)))) ss_nil) (ss_cons (ss_if (ce_val (ee_isi (T := "bool") hX T.z_isinstance T.z_bool (by decide) (by decide +kernel) (oe_var 1))) (ss_one (ss_ret (ee_and (ee_isi (T := "bool") hX T.z_isinstance T.z_bool (by decide) (by decide +kernel) (oe_var 0)) (ee_one (ee_cmpX (cmp_fEq hX (hu_of64 hr)) (oe_var 0) (oe_var 1) (nomark _)))))) ss_nil) (ss_cons (ss_if (ce_val (ee_isi (T := "str") hX T.z_isinstance T.z_str (by decide) (by decide +kernel) (oe_var 1))) (ss_one (ss_ret (ee_and (ee_isi (T := "str") hX T.z_isinstance T.z_str (by decide) (by decide +kernel) (oe_var 0)) (ee_one (ee_cmpX (cmp_fEq hX (hu_of64 hr)) (oe_var 0) (oe_var 1) (nomark _)))))) ss_nil) (ss_one (ss_ret (ee_and (ee_isi (T := "int") hX T.z_isinstance T.z_int (by decide) (by decide +kernel) (oe_var 0)) (ee_and (ee_not (ee_isi (T := "bool") hX T.z_isinstance T.z_bool (by decide) (by decide +kernel) (oe_var 0))) (ee_one (ee_cmpX (cmp_fEq hX (hu_of64 hr)) (oe_var 0) (oe_var 1) (nomark _))))))))))))
theorem ok__law_power {g : Gc} (T : Tx g) : ∀ n, HaveFn g n "_law_power" (F__law_power n)
  | 0 => by obtain ⟨f, fd, h1, h2, h3⟩ := T.d__law_power; exact fn_zero h1 h2 h3
  | n + 1 => by
    obtain ⟨f, fd, h1, h2, h3⟩ := T.d__law_power
    refine fn_ok 2 h1 sc__law_power h2 h3 rfl fun cdv A outer s H E hr => ?_
    have hX : Of (cxOf CX0 g.P g.w g.K g.mg g.base N__law_power "_law_power" (defScope s__law_power) f cdv A outer s H E).nox g := ⟨rfl, rfl, rfl, rfl, rfl, rfl⟩
    exact (ss_cons (ss_set 2 ee_int sc__law_power.nd) (ss_cons (ss_for hX PassesOwn.never (ie_rg1 hX T.z_range (ae_cons (ee_var 1) ae_nil)) (ge_name 3 sc__law_power.nd) (ss_one (ss_set 2 (ee_binX (bin_mul hX) (oe_var 2) (oe_var 0)) sc__law_power.nd))) (ss_one (ss_ret (ee_var 2)))))
theorem ok__law_indices {g : Gc} (T : Tx g) : ∀ n, HaveFn g n "_law_indices" (F__law_indices n)
  | 0 => by obtain ⟨f, fd, h1, h2, h3⟩ := T.d__law_indices; exact fn_zero h1 h2 h3
  | n + 1 => by
    have h__law_power := ok__law_power T n
    obtain ⟨f, fd, h1, h2, h3⟩ := T.d__law_indices
    refine fn_ok 5 h1 sc__law_indices h2 h3 rfl fun cdv A outer s H E hr => ?_
    have hX : Of (cxOf CX0 g.P g.w g.K g.mg g.base N__law_indices "_law_indices" (defScope s__law_indices) f cdv A outer s H E).nox g := ⟨rfl, rfl, rfl, rfl, rfl, rfl⟩
    exact (ss_cons (ss_if (ce_cmpX (cmp_fEq hX (hu_of64 hr)) (oe_var 0) (oe_of ee_int) (nomark _)) (ss_one (ss_ret (ee_lst (ae_cons (ee_tup ae_nil) ae_nil)))) ss_nil) (ss_cons (ss_setO 1 (ee_lst ae_nil) sc__law_indices.nd) (ss_cons (ss_for hX PassesOwn.never (ie_rg1 hX T.z_range (ae_cons (ee_call hX hr h__law_power (ae_cons ee_int (ae_cons (ee_binX (bin_sub hX) (oe_var 0) (oe_of ee_int)) ae_nil))) ae_nil)) (ge_name 2 sc__law_indices.nd) (ss_cons (ss_parO 4 5 hX sc__law_indices.nd (ee_lst ae_nil) ee_int) (ss_cons (ss_for hX PassesOwn.never (ie_rg2 hX T.z_range (ae_cons ee_int (ae_cons (ee_var 0) ae_nil))) (ge_name 3 sc__law_indices.nd) (ss_one (ss_if (ce_cmpX (cmp_fEq hX (hu_of64 hr)) (oe_of (ee_binX (bin_mod hX) (oe_of (ee_binX (bin_div hX) (oe_var 2) (oe_of (ee_call hX hr h__law_power (ae_cons ee_int (ae_cons (ee_binX (bin_sub hX) (oe_var 3) (oe_of ee_int)) ae_nil)))))) (oe_of ee_int))) (oe_of ee_int) (nomark _)) (ss_cons (ss_app 4 (ee_binX (bin_sub hX) (oe_var 3) (oe_var 5))) (ss_one (ss_set 5 (ee_var 3) sc__law_indices.nd))) ss_nil))) (ss_one (ss_app 1 (ee_bltTyX (blt_tuple hX) hX T.z_tuple boot_tuple (ao_cons (oe_of (ee_binX (bin_fAdd hX) (oe_var 4) (oe_of (ee_lst (ae_cons (ee_binX (bin_sub hX) (oe_var 0) (oe_var 5)) ae_nil))))) ao_nil))))))) (ss_one (ss_ret (ee_bltX (blt_fSorted hX (hu_of64 hr)) hX T.z_sorted boot_sorted (ao_cons (oe_var 1) ao_nil)))))))
theorem ok__law_admissible {g : Gc} (T : Tx g) : ∀ n, HaveFn g n "_law_admissible" (F__law_admissible n)
  | 0 => by obtain ⟨f, fd, h1, h2, h3⟩ := T.d__law_admissible; exact fn_zero h1 h2 h3
  | n + 1 => by
    have h__law_indices := ok__law_indices T n
    obtain ⟨f, fd, h1, h2, h3⟩ := T.d__law_admissible
    refine fn_ok 1 h1 sc__law_admissible h2 h3 rfl fun cdv A outer s H E hr => ?_
    have hX : Of (cxOf CX0 g.P g.w g.K g.mg g.base N__law_admissible "_law_admissible" (defScope s__law_admissible) f cdv A outer s H E).nox g := ⟨rfl, rfl, rfl, rfl, rfl, rfl⟩
    exact (ss_one (ss_ret (ee_lc hX sc__law_admissible.nd (Parts.mk (own := [("index", 1)]) (ie_any hX (oe_of (ee_call hX hr h__law_indices (ae_cons (ee_var 0) ae_nil)))) (blkOk_by (by show blkC N__law_admissible (defScope s__law_admissible) _ _ = true; decide +kernel)) (fun _ _ _ _ _ => (ge_name 1 sc__law_admissible.nd)) (fun _ _ _ _ _ => (cts_one (CW.ce (cw_or (ce_cmpX (cmp_fEq (Of.blk hX) (hu_of64 hr)) (oe_var 1) (oe_of (ee_tup ae_nil)) (nomark _)) (cw_or1 (ce_cmpX (cmp_fGt (Of.blk hX) (hu_of64 hr)) (oe_of (ee_ixX (ix_ok (Of.blk hX)) (oe_var 1) (oe_of ee_int) (fun _ _ => rfl))) (oe_of ee_int) (nomark _))))))) (fun _ _ _ _ _ => (ee_var 1)) (by decide)))))
theorem ok__law_drawn_index {g : Gc} (T : Tx g) : ∀ n, HaveFn g n "_law_drawn_index" (F__law_drawn_index n)
  | 0 => by obtain ⟨f, fd, h1, h2, h3⟩ := T.d__law_drawn_index; exact fn_zero h1 h2 h3
  | n + 1 => by
    have h__law_take := ok__law_take T n
    have h__law_admissible := ok__law_admissible T n
    have h__law_indices := ok__law_indices T n
    obtain ⟨f, fd, h1, h2, h3⟩ := T.d__law_drawn_index
    refine fn_ok 2 h1 sc__law_drawn_index h2 h3 rfl fun cdv A outer s H E hr => ?_
    have hX : Of (cxOf CX0 g.P g.w g.K g.mg g.base N__law_drawn_index "_law_drawn_index" (defScope s__law_drawn_index) f cdv A outer s H E).nox g := ⟨rfl, rfl, rfl, rfl, rfl, rfl⟩
    exact (ss_cons (ss_set 3 (ee_binX (bin_fAdd hX) (oe_of ee_int) (oe_of (ee_call hX hr h__law_take (ae_cons (ee_var 0) (ae_cons (ee_var 1) ae_nil))))) sc__law_drawn_index.nd) (ss_cons (ss_set 4 (ee_if (ce_val (ee_var 2)) (ee_call hX hr h__law_admissible (ae_cons (ee_bltX (blt_max hX) hX T.z_max boot_max (ao_cons (oe_of ee_int) (ao_cons (oe_var 3) ao_nil))) ae_nil)) (ee_call hX hr h__law_indices (ae_cons (ee_var 3) ae_nil))) sc__law_drawn_index.nd) (ss_one (ss_ret (ee_ixX (ix_ok hX) (oe_var 4) (oe_of (ee_call hX hr h__law_take (ae_cons (ee_var 0) (ae_cons (ee_bltX (blt_len hX) hX T.z_len PySem.boot_len (ao_cons (oe_var 4) ao_nil)) ae_nil)))) (fun _ _ => rfl))))))
theorem ok__law_drawn_word {g : Gc} (T : Tx g) : ∀ n, HaveFn g n "_law_drawn_word" (F__law_drawn_word n)
  | 0 => by obtain ⟨f, fd, h1, h2, h3⟩ := T.d__law_drawn_word; exact fn_zero h1 h2 h3
  | n + 1 => by
    have h__law_take := ok__law_take T n
    obtain ⟨f, fd, h1, h2, h3⟩ := T.d__law_drawn_word
    refine fn_ok 2 h1 sc__law_drawn_word h2 h3 rfl fun cdv A outer s H E hr => ?_
    have hX : Of (cxOf CX0 g.P g.w g.K g.mg g.base N__law_drawn_word "_law_drawn_word" (defScope s__law_drawn_word) f cdv A outer s H E).nox g := ⟨rfl, rfl, rfl, rfl, rfl, rfl⟩
    exact (ss_cons (ss_set 2 ee_str sc__law_drawn_word.nd) (ss_cons (ss_for hX PassesOwn.never (ie_rg1 hX T.z_range (ae_cons (ee_call hX hr h__law_take (ae_cons (ee_var 0) (ae_cons (ee_binX (bin_fAdd hX) (oe_var 1) (oe_of ee_int)) ae_nil))) ae_nil)) (ge_name 3 sc__law_drawn_word.nd) (ss_one (ss_set 2 (ee_binX (bin_fAdd hX) (oe_var 2) (oe_of (ee_ixX (ix_ok hX) (oe_of ee_str) (oe_of (ee_call hX hr h__law_take (ae_cons (ee_var 0) (ae_cons ee_int ae_nil)))) (fun _ _ => rfl)))) sc__law_drawn_word.nd))) (ss_one (ss_ret (ee_var 2)))))
theorem ok__law_words {g : Gc} (T : Tx g) : ∀ n, HaveFn g n "_law_words" (F__law_words n)
  | 0 => by obtain ⟨f, fd, h1, h2, h3⟩ := T.d__law_words; exact fn_zero h1 h2 h3
  | n + 1 => by
    obtain ⟨f, fd, h1, h2, h3⟩ := T.d__law_words
    refine fn_ok 4 h1 sc__law_words h2 h3 rfl fun cdv A outer s H E hr => ?_
    have hX : Of (cxOf CX0 g.P g.w g.K g.mg g.base N__law_words "_law_words" (defScope s__law_words) f cdv A outer s H E).nox g := ⟨rfl, rfl, rfl, rfl, rfl, rfl⟩
    exact (ss_cons (ss_set 1 (ee_lst (ae_cons ee_str ae_nil)) sc__law_words.nd) (ss_cons (ss_for hX PassesOwn.never (ie_rg1 hX T.z_range (ae_cons (ee_var 0) ae_nil)) (ge_name 2 sc__law_words.nd) (ss_cons (ss_set 3 (ee_lst ae_nil) sc__law_words.nd) (ss_cons (ss_for hX PassesOwn.never (ie_anyF hX (ee_var 1)) (ge_name 4 sc__law_words.nd) (ss_one (ss_set 3 (ee_binX (bin_fAdd hX) (oe_var 3) (oe_of (ee_lst (ae_cons (ee_binX (bin_fAdd hX) (oe_var 4) (oe_of ee_str)) (ae_cons (ee_binX (bin_fAdd hX) (oe_var 4) (oe_of ee_str)) ae_nil))))) sc__law_words.nd))) (ss_one (ss_set 1 (ee_var 3) sc__law_words.nd))))) (ss_one (ss_ret (ee_var 1)))))
theorem ok__law_is_lyndon {g : Gc} (T : Tx g) : ∀ n, HaveFn g n "_law_is_lyndon" (F__law_is_lyndon n)
  | 0 => by obtain ⟨f, fd, h1, h2, h3⟩ := T.d__law_is_lyndon; exact fn_zero h1 h2 h3
  | n + 1 => by
    obtain ⟨f, fd, h1, h2, h3⟩ := T.d__law_is_lyndon
    refine fn_ok 1 h1 sc__law_is_lyndon h2 h3 rfl fun cdv A outer s H E hr => ?_
    have hX : Of (cxOf CX0 g.P g.w g.K g.mg g.base N__law_is_lyndon "_law_is_lyndon" (defScope s__law_is_lyndon) f cdv A outer s H E).nox g := ⟨rfl, rfl, rfl, rfl, rfl, rfl⟩
    exact (ss_one (ss_ret (ee_and (ee_cmpX (cmp_fGt hX (hu_of64 hr)) (oe_of (ee_bltX (blt_len hX) hX T.z_len PySem.boot_len (ao_cons (oe_var 0) ao_nil))) (oe_of ee_int) (nomark _)) (ee_one (ee_cmpX (cmp_fEq hX (hu_of64 hr)) (oe_of (ee_lc hX sc__law_is_lyndon.nd (Parts.mk (own := [("k", 1)]) (ie_rg2 hX T.z_range (ae_cons ee_int (ae_cons (ee_bltX (blt_len hX) hX T.z_len PySem.boot_len (ao_cons (oe_var 0) ao_nil)) ae_nil))) (blkOk_by (by show blkC N__law_is_lyndon (defScope s__law_is_lyndon) _ _ = true; decide +kernel)) (fun _ _ _ _ _ => (ge_name 1 sc__law_is_lyndon.nd)) (fun _ _ _ _ _ => (cts_one (ce_cmpX (cmp_fLe (Of.blk hX) (hu_of64 hr)) (oe_of (ee_cut (Of.blk hX) (oe_var 0) (po_so (oe_var 1)) po_no)) (oe_var 0) (nomark _)))) (fun _ _ _ _ _ => (ee_var 1)) (by decide)))) (oe_of (ee_lst ae_nil)) (nomark _))))))
theorem ok__law_fall {g : Gc} (T : Tx g) : ∀ n, HaveFn g n "_law_fall" (F__law_fall n)
  | 0 => by obtain ⟨f, fd, h1, h2, h3⟩ := T.d__law_fall; exact fn_zero h1 h2 h3
  | n + 1 => by
    have h__law_is_lyndon := ok__law_is_lyndon T n
    obtain ⟨f, fd, h1, h2, h3⟩ := T.d__law_fall
    refine fn_ok 4 h1 sc__law_fall h2 h3 rfl fun cdv A outer s H E hr => ?_
    have hX : Of (cxOf CX0 g.P g.w g.K g.mg g.base N__law_fall "_law_fall" (defScope s__law_fall) f cdv A outer s H E).nox g := ⟨rfl, rfl, rfl, rfl, rfl, rfl⟩
    exact (ss_cons (ss_parC 1 2 hX sc__law_fall.nd (ee_lst ae_nil) ee_int) (ss_cons (ss_while wFuel PassesOwn.never (ce_cmpX (cmp_fLt hX (hu_of64 hr)) (oe_var 2) (oe_of (ee_bltX (blt_len hX) hX T.z_len PySem.boot_len (ao_cons (oe_var 0) ao_nil))) (nomark _)) (ss_cons (ss_set 3 (ee_bltX (blt_max hX) hX T.z_max boot_max (ao_cons (oe_of (ee_lc hX sc__law_fall.nd (Parts.mk (own := [("k", 4)]) (ie_rg2 hX T.z_range (ae_cons (ee_binX (bin_fAdd hX) (oe_var 2) (oe_of ee_int)) (ae_cons (ee_binX (bin_fAdd hX) (oe_of (ee_bltX (blt_len hX) hX T.z_len PySem.boot_len (ao_cons (oe_var 0) ao_nil))) (oe_of ee_int)) ae_nil))) (blkOk_by (by show blkC N__law_fall (defScope s__law_fall) _ _ = true; decide +kernel)) (fun _ _ _ _ _ => (ge_name 4 sc__law_fall.nd)) (fun _ _ _ _ _ => (cts_one (ce_val (ee_call (Of.blk hX) hr h__law_is_lyndon (ae_cons (ee_cut (Of.blk hX) (oe_var 0) (po_so (oe_var 2)) (po_so (oe_var 4))) ae_nil))))) (fun _ _ _ _ _ => (ee_var 4)) (by decide)))) ao_nil)) sc__law_fall.nd) (ss_cons (ss_app 1 (ee_cut hX (oe_var 0) (po_so (oe_var 2)) (po_so (oe_var 3)))) (ss_one (ss_set 2 (ee_var 3) sc__law_fall.nd))))) (ss_one (ss_retO 1 rfl))))
theorem ok__law_moebius {g : Gc} (T : Tx g) : ∀ n, HaveFn g n "_law_moebius" (F__law_moebius n)
  | 0 => by obtain ⟨f, fd, h1, h2, h3⟩ := T.d__law_moebius; exact fn_zero h1 h2 h3
  | n + 1 => by
    obtain ⟨f, fd, h1, h2, h3⟩ := T.d__law_moebius
    refine fn_ok 3 h1 sc__law_moebius h2 h3 rfl fun cdv A outer s H E hr => ?_
    have hX : Of (cxOf CX0 g.P g.w g.K g.mg g.base N__law_moebius "_law_moebius" (defScope s__law_moebius) f cdv A outer s H E).nox g := ⟨rfl, rfl, rfl, rfl, rfl, rfl⟩
    exact (ss_cons (ss_par 2 3 hX sc__law_moebius.nd (ae_cons ee_int (ae_cons (ee_var 0) ae_nil))) (ss_cons (ss_for hX PassesOwn.never (ie_rg2 hX T.z_range (ae_cons ee_int (ae_cons (ee_binX (bin_fAdd hX) (oe_var 0) (oe_of ee_int)) ae_nil))) (ge_name 1 sc__law_moebius.nd) (ss_one (ss_if (ce_cmpX (cmp_fEq hX (hu_of64 hr)) (oe_of (ee_binX (bin_mod hX) (oe_of (ee_bltTyX (blt_int hX) hX T.z_int PyProof.Rows.boot_int (ao_cons (oe_var 3) ao_nil))) (oe_var 1))) (oe_of ee_int) (nomark _)) (ss_cons (ss_par 3 2 hX sc__law_moebius.nd (ae_cons (ee_binX (bin_div hX) (oe_var 3) (oe_var 1)) (ae_cons (ee_neg (oe_var 2)) ae_nil))) (ss_one (ss_if (ce_cmpX (cmp_fEq hX (hu_of64 hr)) (oe_of (ee_binX (bin_mod hX) (oe_of (ee_bltTyX (blt_int hX) hX T.z_int PyProof.Rows.boot_int (ao_cons (oe_var 3) ao_nil))) (oe_var 1))) (oe_of ee_int) (nomark _)) (ss_one (ss_ret ee_int)) ss_nil))) ss_nil))) (ss_one (ss_ret (ee_var 2)))))
theorem ok_law {g : Gc} {f : Addr} {fd : FuncData} (T : Tx g) (n : Nat) (Fo : Fun g.K "law" "law" s_law f fd) (hcl : g.cl = none) (hm : Holds' 11 (MRn n))
    (hm0 : ∀ (ns : List Int), ns.length ≤ 63 → ∃ z z0, M0 (F__law_big n) (.sh (.kst (ns.map D.int)) :: List.replicate (11 + 1) .un) 0 = .nx (.sh (.kst (ns.map D.int)) :: .ow (.lst [.int z]) :: List.replicate 11 .un) z0) :
    FnOk g.P g.w g.K g.mg g.base CX0 (n + 1) f fd ["script"] (spL g.K) := by
  refine law_ok (nl := 11) Fo sc_law rfl rfl hcl hm0 (fun cdv A outer s H E hr => ?_) (fun p cdv A outer s H E hr => ?_) hm
  · have h__law_big := ok__law_big T n
    have hX : Of (cxOf CX0 g.P g.w g.K g.mg g.base N_law "law" (defScope s_law) f cdv A outer s H E).nox g := ⟨rfl, rfl, rfl, rfl, rfl, rfl⟩
    exact (ss_setO 1 (ee_call hX hr h__law_big (ae_cons (ee_var 0) (ae_cons ee_int (ae_cons ee_int ae_nil)))) sc_law.nd)
  · have T := T.at p
    have h__law_drawn_word := ok__law_drawn_word T n
    have h__law_drawn_index := ok__law_drawn_index T n
    have h__law_same := ok__law_same T n
    have h_is_lyndon := ok_is_lyndon T n
    have h__law_is_lyndon := ok__law_is_lyndon T n
    have h_fall_of := ok_fall_of T n
    have h__law_fall := ok__law_fall T n
    have h_counts_of := ok_counts_of T n
    have h__law_take := ok__law_take T n
    have h__law_words := ok__law_words T n
    have h_lyndon_words := ok_lyndon_words T n
    have h_lyndon_count := ok_lyndon_count T n
    have h_lyndon_indices := ok_lyndon_indices T n
    have h__law_indices := ok__law_indices T n
    have h__law_moebius := ok__law_moebius T n
    have h__law_power := ok__law_power T n
    have h_moebius := ok_moebius T n
    have h_divisors := ok_divisors T n
    have hX : Of (cxOf CX0 g.P g.w g.K g.mg g.base N_law "law" (defScope s_law) f cdv A outer s H E).nox (g.at p) := ⟨rfl, rfl, rfl, rfl, rfl, rfl⟩
    exact (ss_cons (ss_for hX PassesOwn.never (ie_anyF hX (ee_lst (ae_cons (ee_call hX hr h__law_drawn_word (ae_cons (ee_var 1) (ae_cons ee_int ae_nil))) (ae_cons (ee_call hX hr h__law_drawn_index (ae_cons (ee_var 1) (ae_cons ee_int (ae_cons ee_bl ae_nil)))) ae_nil)))) (ge_name 2 sc_law.nd) (ss_cons (ss_if (CW.ce (cw_or (ce_not (ce_val (ee_call hX hr h__law_same (ae_cons (ee_call hX hr h_is_lyndon (ae_cons (ee_var 2) ae_nil)) (ae_cons (ee_call hX hr h__law_is_lyndon (ae_cons (ee_var 2) ae_nil)) ae_nil))))) (cw_or1 (ce_not (ce_val (ee_call hX hr h__law_same (ae_cons (ee_call hX hr h_fall_of (ae_cons (ee_var 2) ae_nil)) (ae_cons (ee_call hX hr h__law_fall (ae_cons (ee_var 2) ae_nil)) ae_nil)))))))) (ss_one (ss_ret ee_bl)) ss_nil) (ss_cons (ss_setO 8 (ee_lst ae_nil) sc_law.nd) (ss_cons (ss_for hX PassesOwn.never (ie_anyF hX (ee_call hX hr h__law_fall (ae_cons (ee_var 2) ae_nil))) (ge_name 9 sc_law.nd) (ss_one (ss_if (CW.ce (cw_and (ce_cmpX (cmp_fNe hX (hu_of64 hr)) (oe_var 8) (oe_of (ee_lst ae_nil)) (nomark _)) (cw_and1 (ce_cmpX (cmp_fEq hX (hu_of64 hr)) (oe_of (ee_ixX (ix_ok hX) (oe_of (ee_ixX (ix_ok hX) (oe_var 8) (oe_of (ee_neg (oe_of ee_int))) (fun _ _ => rfl))) (oe_of ee_int) (fun _ _ => rfl))) (oe_var 9) (nomark _))))) (ss_one (ss_setIx 8 (ee_tup (ae_cons (ee_var 9) (ae_cons (ee_binX (bin_fAdd hX) (oe_of (ee_ixX (ix_ok hX) (oe_of (ee_ixX (ix_ok hX) (oe_var 8) (oe_of (ee_neg (oe_of ee_int))) (fun _ _ => rfl))) (oe_of ee_int) (fun _ _ => rfl))) (oe_of ee_int)) ae_nil))) (oe_of (ee_neg (oe_of ee_int))))) (ss_one (ss_app 8 (ee_tup (ae_cons (ee_var 9) (ae_cons ee_int ae_nil)))))))) (ss_frz 8 rfl (ss_one (ss_if (ce_not (ce_val (ee_call hX hr h__law_same (ae_cons (ee_call hX hr h_counts_of (ae_cons (ee_call hX hr h__law_fall (ae_cons (ee_var 2) ae_nil)) ae_nil)) (ae_cons (ee_var 8) ae_nil))))) (ss_one (ss_ret ee_bl)) ss_nil))))))) (ss_cons (ss_set 3 (ee_binX (bin_fAdd hX) (oe_of ee_int) (oe_of (ee_call hX hr h__law_take (ae_cons (ee_var 1) (ae_cons ee_int ae_nil))))) sc_law.nd) (ss_cons (ss_setLc 4 hX sc_law.nd (Parts.mk (own := [("word", 10)]) (ie_any hX (oe_of (ee_call hX hr h__law_words (ae_cons (ee_var 3) ae_nil)))) (blkOk_by (by show blkC N_law (defScope s_law) _ _ = true; decide +kernel)) (fun _ _ _ _ _ => (ge_name 10 sc_law.nd)) (fun _ _ _ _ _ => (cts_one (ce_val (ee_call (Of.blk hX) hr h__law_is_lyndon (ae_cons (ee_var 10) ae_nil))))) (fun _ _ _ _ _ => (ee_var 10)) (by decide)) (sw_true rfl rfl rfl (by decide +kernel))) (ss_cons (ss_if (ce_not (ce_val (ee_call hX hr h__law_same (ae_cons (ee_lst (ae_cons (ee_call hX hr h_lyndon_words (ae_cons (ee_var 3) ae_nil)) (ae_cons (ee_call hX hr h_lyndon_count (ae_cons (ee_var 3) (ae_cons ee_int ae_nil))) ae_nil))) (ae_cons (ee_lst (ae_cons (ee_var 4) (ae_cons (ee_bltX (blt_len hX) hX T.z_len PySem.boot_len (ao_cons (oe_var 4) ao_nil)) ae_nil))) ae_nil))))) (ss_one (ss_ret ee_bl)) ss_nil) (ss_cons (ss_if (ce_not (ce_val (ee_call hX hr h__law_same (ae_cons (ee_call hX hr h_lyndon_indices (ae_cons (ee_var 3) ae_nil)) (ae_cons (ee_lc hX sc_law.nd (Parts.mk (own := [("index", 12)]) (ie_any hX (oe_of (ee_call hX hr h__law_indices (ae_cons (ee_var 3) ae_nil)))) (blkOk_by (by show blkC N_law (defScope s_law) _ _ = true; decide +kernel)) (fun _ _ _ _ _ => (ge_name 12 sc_law.nd)) (fun _ _ _ _ _ => (cts_one (ce_val (ee_call (Of.blk hX) hr h__law_is_lyndon (ae_cons (ee_var 12) ae_nil))))) (fun _ _ _ _ _ => (ee_var 12)) (by decide))) ae_nil))))) (ss_one (ss_ret ee_bl)) ss_nil) (ss_cons (ss_set 5 (ee_binX (bin_fAdd hX) (oe_of ee_int) (oe_of (ee_call hX hr h__law_take (ae_cons (ee_var 1) (ae_cons ee_int ae_nil))))) sc_law.nd) (ss_cons (ss_set 6 (ee_bltX (blt_sum hX) hX T.z_sum boot_sum (ao_cons (oe_of (ee_lc hX sc_law.nd (Parts.mk (own := [("d", 11)]) (ie_rg2 hX T.z_range (ae_cons ee_int (ae_cons (ee_binX (bin_fAdd hX) (oe_var 3) (oe_of ee_int)) ae_nil))) (blkOk_by (by show blkC N_law (defScope s_law) _ _ = true; decide +kernel)) (fun _ _ _ _ _ => (ge_name 11 sc_law.nd)) (fun _ _ _ _ _ => (cts_one (ce_cmpX (cmp_fEq (Of.blk hX) (hu_of64 hr)) (oe_of (ee_binX (bin_mod (Of.blk hX)) (oe_var 3) (oe_var 11))) (oe_of ee_int) (nomark _)))) (fun _ _ _ _ _ => (ee_binX (bin_mul (Of.blk hX)) (oe_of (ee_call (Of.blk hX) hr h__law_moebius (ae_cons (ee_var 11) ae_nil))) (oe_of (ee_call (Of.blk hX) hr h__law_power (ae_cons (ee_var 5) (ae_cons (ee_binX (bin_div (Of.blk hX)) (oe_var 3) (oe_var 11)) ae_nil)))))) (by decide)))) ao_nil)) sc_law.nd) (ss_cons (ss_if (ce_not (ce_val (ee_call hX hr h__law_same (ae_cons (ee_binX (bin_mul hX) (oe_of (ee_call hX hr h_lyndon_count (ae_cons (ee_var 3) (ae_cons (ee_var 5) ae_nil)))) (oe_var 3)) (ae_cons (ee_var 6) ae_nil))))) (ss_one (ss_ret ee_bl)) ss_nil) (ss_cons (ss_set 7 (ee_binX (bin_fAdd hX) (oe_of ee_int) (oe_of (ee_call hX hr h__law_take (ae_cons (ee_var 1) (ae_cons ee_int ae_nil))))) sc_law.nd) (ss_one (ss_ret (ee_call hX hr h__law_same (ae_cons (ee_lst (ae_cons (ee_call hX hr h_moebius (ae_cons (ee_var 7) ae_nil)) (ae_cons (ee_call hX hr h_divisors (ae_cons (ee_var 7) ae_nil)) ae_nil))) (ae_cons (ee_lst (ae_cons (ee_call hX hr h__law_moebius (ae_cons (ee_var 7) ae_nil)) (ae_cons (ee_lc hX sc_law.nd (Parts.mk (own := [("d", 11)]) (ie_rg2 hX T.z_range (ae_cons ee_int (ae_cons (ee_binX (bin_fAdd hX) (oe_var 7) (oe_of ee_int)) ae_nil))) (blkOk_by (by show blkC N_law (defScope s_law) _ _ = true; decide +kernel)) (fun _ _ _ _ _ => (ge_name 11 sc_law.nd)) (fun _ _ _ _ _ => (cts_one (ce_cmpX (cmp_fEq (Of.blk hX) (hu_of64 hr)) (oe_of (ee_binX (bin_mod (Of.blk hX)) (oe_var 7) (oe_var 11))) (oe_of ee_int) (nomark _)))) (fun _ _ _ _ _ => (ee_var 11)) (by decide))) ae_nil))) ae_nil))))))))))))))
/-! ### the runs over a tape, with fast answers -/
def TF_divisors : Nat → List D → Int → ER
  | 0 => fun _ _ => none
  | n + 1 => runDef 1 1 (B_divisors)
theorem dt_divisors : ∀ n, DrF (TF_divisors n) (F_divisors n)
  | 0 => drf_zero
  | n + 1 => by
    exact drf_run (pus_ret (pu_comp (pu_rg2 (pu_acons pu_c (pu_acons (pu_bin pu_ov (pu_oe pu_c)) pu_anil))) pu_name (pu_cmp (pu_oe (pu_bin pu_ov pu_ov)) (pu_oe pu_c)) pu_v)).dr
def TF_moebius : Nat → List D → Int → ER
  | 0 => fun _ _ => none
  | n + 1 => runDef 1 2 (B_moebius)
theorem dt_moebius : ∀ n, DrF (TF_moebius n) (F_moebius n)
  | 0 => drf_zero
  | n + 1 => by
    exact drf_run (pus_seq (pus_set pu_c) (pus_seq (pus_set pu_c) (pus_seq (pus_while (pu_cmp pu_ov (pu_oe pu_c)) (pus_seq (pus_if (pu_cmp (pu_oe (pu_bin pu_ov pu_ov)) (pu_oe pu_c)) (pus_seq (pus_aug pu_ov) (pus_seq (pus_set (pu_un pu_ov)) (pus_if (pu_cmp (pu_oe (pu_bin pu_ov pu_ov)) (pu_oe pu_c)) (pus_ret pu_c) pus_nil))) pus_nil) (pus_aug (pu_oe pu_c))) _) (pus_ret pu_v)))).dr
def TF_all_indices : Nat → List D → Int → ER
  | 0 => fun _ _ => none
  | n + 1 => runDef 1 3 (B_all_indices (TF_all_indices n))
theorem dt_all_indices : ∀ n, DrF (TF_all_indices n) (F_all_indices n)
  | 0 => drf_zero
  | n + 1 => by
    have dt_all_indices := dt_all_indices n
    exact drf_run (drs_seq (pus_if (pu_cmp pu_ov (pu_oe pu_c)) (pus_ret (pu_lst (pu_acons (pu_tup pu_anil) pu_anil))) pus_nil).dr (drs_seq (pus_setO (pu_lst pu_anil)).dr (drs_seq (drs_for (pu_rg2 (pu_acons pu_c (pu_acons (pu_bin pu_ov (pu_oe pu_c)) pu_anil))).dr pu_name (drs_ext (dr_oe (dr_comp (dr_any (dr_oe (dr_call dt_all_indices (pu_acons (pu_bin pu_ov pu_ov) pu_anil).dr))) pu_name (pu_cyes).dr (pu_bin (pu_oe (pu_tup (pu_acons pu_v pu_anil))) pu_ov).dr)))) (pus_retO).dr)))
def TF_all_words : Nat → List D → Int → ER
  | 0 => fun _ _ => none
  | n + 1 => runDef 1 4 (B_all_words)
theorem dt_all_words : ∀ n, DrF (TF_all_words n) (F_all_words n)
  | 0 => drf_zero
  | n + 1 => by
    exact drf_run (pus_seq (pus_set (pu_lst (pu_acons pu_c pu_anil))) (pus_seq (pus_for (pu_rg1 (pu_acons pu_v pu_anil)) pu_name (pus_set (pu_comp2 (pu_any pu_ov) pu_name pu_cyes (pu_any (pu_oe pu_c)) pu_name pu_cyes (pu_bin pu_ov pu_ov)))) (pus_ret pu_v))).dr
def TF_is_lyndon : Nat → List D → Int → ER
  | 0 => fun _ _ => none
  | n + 1 => xLyn
theorem dt_is_lyndon : ∀ n, DrF (TF_is_lyndon n) (F_is_lyndon n)
  | 0 => drf_zero
  | n + 1 => (xLyn_ok rfl).dr
def TF_lyndon_words : Nat → List D → Int → ER
  | 0 => fun _ _ => none
  | n + 1 => runDef 1 1 (B_lyndon_words (TF_all_words n) (TF_is_lyndon n))
theorem dt_lyndon_words : ∀ n, DrF (TF_lyndon_words n) (F_lyndon_words n)
  | 0 => drf_zero
  | n + 1 => by
    have dt_all_words := dt_all_words n
    have dt_is_lyndon := dt_is_lyndon n
    exact drf_run (drs_ret (dr_comp (dr_any (dr_oe (dr_call dt_all_words (pu_acons pu_v pu_anil).dr))) pu_name (dr_ce (dr_call dt_is_lyndon (pu_acons pu_v pu_anil).dr)) (pu_v).dr))
def TF_lyndon_indices : Nat → List D → Int → ER
  | 0 => fun _ _ => none
  | n + 1 => runDef 1 1 (B_lyndon_indices (TF_all_indices n) (TF_is_lyndon n))
theorem dt_lyndon_indices : ∀ n, DrF (TF_lyndon_indices n) (F_lyndon_indices n)
  | 0 => drf_zero
  | n + 1 => by
    have dt_all_indices := dt_all_indices n
    have dt_is_lyndon := dt_is_lyndon n
    exact drf_run (drs_ret (dr_comp (dr_any (dr_oe (dr_call dt_all_indices (pu_acons pu_v pu_anil).dr))) pu_name (dr_ce (dr_call dt_is_lyndon (pu_acons pu_v pu_anil).dr)) (pu_v).dr))
def TF_power : Nat → List D → Int → ER
  | 0 => fun _ _ => none
  | n + 1 => xPow
theorem dt_power : ∀ n, DrF (TF_power n) (F_power n)
  | 0 => drf_zero
  | n + 1 => (xPow2_ok rfl).dr
def TF_lyndon_count : Nat → List D → Int → ER
  | 0 => fun _ _ => none
  | n + 1 => runDef 2 1 (B_lyndon_count (TF_divisors n) (TF_moebius n) (TF_power n))
theorem dt_lyndon_count : ∀ n, DrF (TF_lyndon_count n) (F_lyndon_count n)
  | 0 => drf_zero
  | n + 1 => by
    have dt_divisors := dt_divisors n
    have dt_moebius := dt_moebius n
    have dt_power := dt_power n
    exact drf_run (drs_ret (dr_bin (dr_oe (dr_blt (dr_aconsO (dr_oe (dr_comp (dr_any (dr_oe (dr_call dt_divisors (pu_acons pu_v pu_anil).dr))) pu_name (pu_cyes).dr (dr_bin (dr_oe (dr_call dt_moebius (pu_acons pu_v pu_anil).dr)) (dr_oe (dr_call dt_power (pu_acons pu_v (pu_acons (pu_bin pu_ov pu_ov) pu_anil)).dr))))) (pu_anil).dr))) (pu_ov).dr))
def TF_longest_lyndon : Nat → List D → Int → ER
  | 0 => fun _ _ => none
  | n + 1 => runDef 2 2 (B_longest_lyndon (TF_is_lyndon n))
theorem dt_longest_lyndon : ∀ n, DrF (TF_longest_lyndon n) (F_longest_lyndon n)
  | 0 => drf_zero
  | n + 1 => by
    have dt_is_lyndon := dt_is_lyndon n
    exact drf_run (drs_seq (pus_set (pu_bin pu_ov (pu_oe pu_c))).dr (drs_seq (drs_for (pu_rg2 (pu_acons (pu_bin pu_ov (pu_oe pu_c)) (pu_acons (pu_bin (pu_oe (pu_blt (pu_aconsO pu_ov pu_anil))) (pu_oe pu_c)) pu_anil))).dr pu_name (drs_if (dr_ce (dr_call dt_is_lyndon (pu_acons (pu_cut pu_ov (pu_pso pu_ov) (pu_pso pu_ov)) pu_anil).dr)) (pus_set pu_v).dr (pus_nil).dr)) (pus_ret pu_v).dr))
def TF_fall_of : Nat → List D → Int → ER
  | 0 => fun _ _ => none
  | n + 1 => runDef 1 3 (B_fall_of (TF_longest_lyndon n))
theorem dt_fall_of : ∀ n, DrF (TF_fall_of n) (F_fall_of n)
  | 0 => drf_zero
  | n + 1 => by
    have dt_longest_lyndon := dt_longest_lyndon n
    exact drf_run (drs_seq (pus_setO (pu_lst pu_anil)).dr (drs_seq (pus_set pu_c).dr (drs_seq (dr_while (pu_cmp pu_ov (pu_oe (pu_blt (pu_aconsO pu_ov pu_anil)))).dr (drs_seq (drs_set (dr_call dt_longest_lyndon (pu_acons pu_v (pu_acons pu_v pu_anil)).dr)) (pus_seq (pus_app (pu_cut pu_ov (pu_pso pu_ov) (pu_pso pu_ov))) (pus_set pu_v)).dr) _) (pus_retO).dr)))
def TF_counts_of : Nat → List D → Int → ER
  | 0 => fun _ _ => none
  | n + 1 => runDef 1 2 (B_counts_of)
theorem dt_counts_of : ∀ n, DrF (TF_counts_of n) (F_counts_of n)
  | 0 => drf_zero
  | n + 1 => by
    exact drf_run (pus_seq (pus_setO (pu_lst pu_anil)) (pus_seq (pus_for (pu_any (pu_oe pu_v)) pu_name (pus_if (pu_cand (pu_cmp pu_ov (pu_oe (pu_lst pu_anil))) (pu_cmp (pu_oe (pu_bin (pu_oe (pu_bin pu_ov (pu_oe (pu_un (pu_oe pu_c))))) (pu_oe pu_c))) pu_ov)) (pus_setIx (pu_oe (pu_un (pu_oe pu_c))) (pu_tup (pu_acons pu_v (pu_acons (pu_bin (pu_oe (pu_bin (pu_oe (pu_bin pu_ov (pu_oe (pu_un (pu_oe pu_c))))) (pu_oe pu_c))) (pu_oe pu_c)) pu_anil)))) (pus_app (pu_tup (pu_acons pu_v (pu_acons pu_c pu_anil)))))) pus_retO)).dr
theorem take_F (n m : Nat) (h0 : 0 < m) (h1 : m < tK) (z : Int) : F__law_take (n + 1) [.cell, .int m] z = some (.int (z.fmod m), false, z.fdiv m) := by
  have hm : (m : Int) ≠ 0 := by omega
  have hm2 : ¬ m = 0 := by omega
  have hl : (m : Int).natAbs.log2 < 9000 := by
    rw [Int.natAbs_natCast]
    have : m.log2 < 20 := (Nat.log2_lt (by omega)).mpr h1
    omega
  have hl2 : m.log2 < 9000 := by rw [Int.natAbs_natCast] at hl; exact hl
  simp [F__law_take, runDef, B__law_take, sSeq, sSet, mBin, oE, eBlt, aConsO, aNil, eCell, dInt, oV, dMod, sCell, dDiv, sRet, eV, hm, hm2, hl, hl2, Option.bind]
def TF__law_take : Nat → List D → Int → ER
  | 0 => fun _ _ => none
  | _ + 1 => tTake
theorem dt__law_take : ∀ n, DrF (TF__law_take n) (F__law_take n)
  | 0 => fun ds w z d fr w' t e => by cases e
  | n + 1 => fun ds w z d fr w' t e => by
    obtain ⟨z', k, t'⟩ := dr_take ds w z d fr w' t e
    refine ⟨z', ?_, t'⟩
    change tTake ds w = _ at e
    unfold tTake at e
    split at e
    · rename_i m t0
      cases q : (Nat.beq (Nat.mod (Nat.div t0 tK) tK) m && Nat.blt 0 m) with
      | false => rw [q] at e; cases e
      | true =>
        rw [Bool.and_eq_true, nbeq, nblt, decide_eq_true_iff, decide_eq_true_iff] at q
        have hm : m < tK := by
          have : (t0 / tK) % tK = m := q.1
          rw [← this]; exact Nat.mod_lt _ (by decide)
        have := take_F n m q.2 hm z
        change (if 0 < Int.ofNat m then some (D.int (z.fmod (Int.ofNat m)), false, z.fdiv (Int.ofNat m)) else none) = some (d, fr, z') at k
        rw [if_pos (by rw [Int.ofNat_eq_natCast]; omega)] at k
        rw [← k]; exact this
    · cases e
def TF__law_same (n : Nat) : List D → Int → ER := bif Nat.ble 9 n then xSame else fun _ _ => none
theorem dt__law_same (n : Nat) : DrF (TF__law_same n) (F__law_same n) := by
  unfold TF__law_same
  cases q : Nat.ble 9 n with
  | false => exact drf_zero
  | true =>
    have := Nat.le_of_ble_eq_true q
    obtain ⟨j, rfl⟩ : ∃ j, n = 9 + j := ⟨n - 9, by omega⟩
    exact (xSame_ok (F := F__law_same) (fun _ => rfl) j).dr
def TF__law_power : Nat → List D → Int → ER
  | 0 => fun _ _ => none
  | n + 1 => xPow
theorem dt__law_power : ∀ n, DrF (TF__law_power n) (F__law_power n)
  | 0 => drf_zero
  | n + 1 => (xPow_ok rfl).dr
theorem u__law_power : ∀ n, PuF (F__law_power n)
  | 0 => puf_zero
  | n + 1 => by
    exact puf_run (pus_seq (pus_set pu_c) (pus_seq (pus_for (pu_rg1 (pu_acons pu_v pu_anil)) pu_name (pus_set (pu_bin pu_ov pu_ov))) (pus_ret pu_v)))
theorem u__law_indices : ∀ n, PuF (F__law_indices n)
  | 0 => puf_zero
  | n + 1 => by
    have u__law_power := u__law_power n
    exact puf_run (pus_seq (pus_if (pu_cmp pu_ov (pu_oe pu_c)) (pus_ret (pu_lst (pu_acons (pu_tup pu_anil) pu_anil))) pus_nil) (pus_seq (pus_setO (pu_lst pu_anil)) (pus_seq (pus_for (pu_rg1 (pu_acons (pu_call u__law_power (pu_acons pu_c (pu_acons (pu_bin pu_ov (pu_oe pu_c)) pu_anil))) pu_anil)) pu_name (pus_seq (pus_parO (pu_lst pu_anil) pu_c) (pus_seq (pus_for (pu_rg2 (pu_acons pu_c (pu_acons pu_v pu_anil))) pu_name (pus_if (pu_cmp (pu_oe (pu_bin (pu_oe (pu_bin pu_ov (pu_oe (pu_call u__law_power (pu_acons pu_c (pu_acons (pu_bin pu_ov (pu_oe pu_c)) pu_anil)))))) (pu_oe pu_c))) (pu_oe pu_c)) (pus_seq (pus_app (pu_bin pu_ov pu_ov)) (pus_set pu_v)) pus_nil)) (pus_app (pu_blt (pu_aconsO (pu_oe (pu_bin pu_ov (pu_oe (pu_lst (pu_acons (pu_bin pu_ov pu_ov) pu_anil))))) pu_anil)))))) (pus_ret (pu_blt (pu_aconsO pu_ov pu_anil))))))
def G__law_indices : List D → Int → ER := runDef 1 5 (B__law_indices xPow)
theorem dg__law_indices (n : Nat) : DrF G__law_indices (F__law_indices (n + 2)) := by
  have dt__law_power : DrF xPow (F__law_power (n + 1)) := (xPow_ok rfl).dr
  exact drf_run (drs_seq (pus_if (pu_cmp pu_ov (pu_oe pu_c)) (pus_ret (pu_lst (pu_acons (pu_tup pu_anil) pu_anil))) pus_nil).dr (drs_seq (pus_setO (pu_lst pu_anil)).dr (drs_seq (drs_for (dr_rg1 (dr_acons (dr_call dt__law_power (pu_acons pu_c (pu_acons (pu_bin pu_ov (pu_oe pu_c)) pu_anil)).dr) (pu_anil).dr)) pu_name (drs_seq (pus_parO (pu_lst pu_anil) pu_c).dr (drs_seq (drs_for (pu_rg2 (pu_acons pu_c (pu_acons pu_v pu_anil))).dr pu_name (drs_if (dr_cmp (dr_oe (dr_bin (dr_oe (dr_bin (pu_ov).dr (dr_oe (dr_call dt__law_power (pu_acons pu_c (pu_acons (pu_bin pu_ov (pu_oe pu_c)) pu_anil)).dr)))) (pu_oe pu_c).dr)) (pu_oe pu_c).dr) (pus_seq (pus_app (pu_bin pu_ov pu_ov)) (pus_set pu_v)).dr (pus_nil).dr)) (pus_app (pu_blt (pu_aconsO (pu_oe (pu_bin pu_ov (pu_oe (pu_lst (pu_acons (pu_bin pu_ov pu_ov) pu_anil))))) pu_anil))).dr))) (pus_ret (pu_blt (pu_aconsO pu_ov pu_anil))).dr)))
theorem ind_chk0 : sameT (G__law_indices [.int (.ofNat 0)] 0) 0 = true := by decide +kernel
theorem ind_chk1 : sameT (G__law_indices [.int (.ofNat 1)] 0) 1 = true := by decide +kernel
theorem ind_chk2 : sameT (G__law_indices [.int (.ofNat 2)] 0) 2 = true := by decide +kernel
theorem ind_chk3 : sameT (G__law_indices [.int (.ofNat 3)] 0) 3 = true := by decide +kernel
theorem ind_chk4 : sameT (G__law_indices [.int (.ofNat 4)] 0) 4 = true := by decide +kernel
theorem ind_chk5 : sameT (G__law_indices [.int (.ofNat 5)] 0) 5 = true := by decide +kernel
theorem ind_chk6 : sameT (G__law_indices [.int (.ofNat 6)] 0) 6 = true := by decide +kernel
theorem ind_chk7 : sameT (G__law_indices [.int (.ofNat 7)] 0) 7 = true := by decide +kernel
theorem ind_chk8 : sameT (G__law_indices [.int (.ofNat 8)] 0) 8 = true := by decide +kernel
theorem ind_chk9 : sameT (G__law_indices [.int (.ofNat 9)] 0) 9 = true := by decide +kernel
theorem ind_chk : ∀ s, s < 10 → sameT (G__law_indices [.int (.ofNat s)] 0) s = true
  | 0, _ => ind_chk0
  | 1, _ => ind_chk1
  | 2, _ => ind_chk2
  | 3, _ => ind_chk3
  | 4, _ => ind_chk4
  | 5, _ => ind_chk5
  | 6, _ => ind_chk6
  | 7, _ => ind_chk7
  | 8, _ => ind_chk8
  | 9, _ => ind_chk9
  | s + 10, h => absurd h (by omega)
def TF__law_indices : Nat → List D → Int → ER
  | 0 => fun _ _ => none
  | 1 => fun _ _ => none
  | n + 2 => xInd
theorem dt__law_indices : ∀ n, DrF (TF__law_indices n) (F__law_indices n)
  | 0 => drf_zero
  | 1 => drf_zero
  | n + 2 => (xInd_ok2 (dg__law_indices n) (u__law_indices (n + 2)) ind_chk).dr
def TF__law_admissible : Nat → List D → Int → ER
  | 0 => fun _ _ => none
  | n + 1 => runDef 1 1 (B__law_admissible (TF__law_indices n))
theorem dt__law_admissible : ∀ n, DrF (TF__law_admissible n) (F__law_admissible n)
  | 0 => drf_zero
  | n + 1 => by
    have dt__law_indices := dt__law_indices n
    exact drf_run (drs_ret (dr_comp (dr_any (dr_oe (dr_call dt__law_indices (pu_acons pu_v pu_anil).dr))) pu_name (pu_cor (pu_cmp pu_ov (pu_oe (pu_tup pu_anil))) (pu_cmp (pu_oe (pu_bin pu_ov (pu_oe pu_c))) (pu_oe pu_c))).dr (pu_v).dr))
def TF__law_drawn_index : Nat → List D → Int → ER
  | 0 => fun _ _ => none
  | n + 1 => runDef 3 2 (B__law_drawn_index (TF__law_take n) (TF__law_admissible n) (TF__law_indices n))
theorem dt__law_drawn_index : ∀ n, DrF (TF__law_drawn_index n) (F__law_drawn_index n)
  | 0 => drf_zero
  | n + 1 => by
    have dt__law_take := dt__law_take n
    have dt__law_admissible := dt__law_admissible n
    have dt__law_indices := dt__law_indices n
    exact drf_run (drs_seq (drs_set (dr_bin (pu_oe pu_c).dr (dr_oe (dr_call dt__law_take (pu_acons pu_v (pu_acons pu_v pu_anil)).dr)))) (drs_seq (drs_set (dr_if (pu_ce pu_v).dr (dr_call dt__law_admissible (pu_acons (pu_blt (pu_aconsO (pu_oe pu_c) (pu_aconsO pu_ov pu_anil))) pu_anil).dr) (dr_call dt__law_indices (pu_acons pu_v pu_anil).dr))) (drs_ret (dr_bin (pu_ov).dr (dr_oe (dr_call dt__law_take (pu_acons pu_v (pu_acons (pu_blt (pu_aconsO pu_ov pu_anil)) pu_anil)).dr))))))
def TF__law_drawn_word : Nat → List D → Int → ER
  | 0 => fun _ _ => none
  | n + 1 => runDef 2 2 (B__law_drawn_word (TF__law_take n))
theorem dt__law_drawn_word : ∀ n, DrF (TF__law_drawn_word n) (F__law_drawn_word n)
  | 0 => drf_zero
  | n + 1 => by
    have dt__law_take := dt__law_take n
    exact drf_run (drs_seq (pus_set pu_c).dr (drs_seq (drs_for (dr_rg1 (dr_acons (dr_call dt__law_take (pu_acons pu_v (pu_acons (pu_bin pu_ov (pu_oe pu_c)) pu_anil)).dr) (pu_anil).dr)) pu_name (drs_set (dr_bin (pu_ov).dr (dr_oe (dr_bin (pu_oe pu_c).dr (dr_oe (dr_call dt__law_take (pu_acons pu_v (pu_acons pu_c pu_anil)).dr))))))) (pus_ret pu_v).dr))
def TF__law_words : Nat → List D → Int → ER
  | 0 => fun _ _ => none
  | n + 1 => runDef 1 4 (B__law_words)
theorem dt__law_words : ∀ n, DrF (TF__law_words n) (F__law_words n)
  | 0 => drf_zero
  | n + 1 => by
    exact drf_run (pus_seq (pus_set (pu_lst (pu_acons pu_c pu_anil))) (pus_seq (pus_for (pu_rg1 (pu_acons pu_v pu_anil)) pu_name (pus_seq (pus_set (pu_lst pu_anil)) (pus_seq (pus_for (pu_any (pu_oe pu_v)) pu_name (pus_set (pu_bin pu_ov (pu_oe (pu_lst (pu_acons (pu_bin pu_ov (pu_oe pu_c)) (pu_acons (pu_bin pu_ov (pu_oe pu_c)) pu_anil))))))) (pus_set pu_v)))) (pus_ret pu_v))).dr
def TF__law_is_lyndon : Nat → List D → Int → ER
  | 0 => fun _ _ => none
  | n + 1 => xLyn
theorem dt__law_is_lyndon : ∀ n, DrF (TF__law_is_lyndon n) (F__law_is_lyndon n)
  | 0 => drf_zero
  | n + 1 => (xLyn2_ok rfl).dr
def TF__law_fall : Nat → List D → Int → ER
  | 0 => fun _ _ => none
  | n + 1 => runDef 1 4 (B__law_fall (TF__law_is_lyndon n))
theorem dt__law_fall : ∀ n, DrF (TF__law_fall n) (F__law_fall n)
  | 0 => drf_zero
  | n + 1 => by
    have dt__law_is_lyndon := dt__law_is_lyndon n
    exact drf_run (drs_seq (pus_parO (pu_lst pu_anil) pu_c).dr (drs_seq (dr_while (pu_cmp pu_ov (pu_oe (pu_blt (pu_aconsO pu_ov pu_anil)))).dr (drs_seq (drs_set (dr_blt (dr_aconsO (dr_oe (dr_comp (pu_rg2 (pu_acons (pu_bin pu_ov (pu_oe pu_c)) (pu_acons (pu_bin (pu_oe (pu_blt (pu_aconsO pu_ov pu_anil))) (pu_oe pu_c)) pu_anil))).dr pu_name (dr_ce (dr_call dt__law_is_lyndon (pu_acons (pu_cut pu_ov (pu_pso pu_ov) (pu_pso pu_ov)) pu_anil).dr)) (pu_v).dr)) (pu_anil).dr))) (pus_seq (pus_app (pu_cut pu_ov (pu_pso pu_ov) (pu_pso pu_ov))) (pus_set pu_v)).dr) _) (pus_retO).dr))
def TF__law_moebius : Nat → List D → Int → ER
  | 0 => fun _ _ => none
  | n + 1 => runDef 1 3 (B__law_moebius)
theorem dt__law_moebius : ∀ n, DrF (TF__law_moebius n) (F__law_moebius n)
  | 0 => drf_zero
  | n + 1 => by
    exact drf_run (pus_seq (pus_par (pu_acons pu_c (pu_acons pu_v pu_anil))) (pus_seq (pus_for (pu_rg2 (pu_acons pu_c (pu_acons (pu_bin pu_ov (pu_oe pu_c)) pu_anil))) pu_name (pus_if (pu_cmp (pu_oe (pu_bin (pu_oe (pu_blt (pu_aconsO pu_ov pu_anil))) pu_ov)) (pu_oe pu_c)) (pus_seq (pus_par (pu_acons (pu_bin pu_ov pu_ov) (pu_acons (pu_un pu_ov) pu_anil))) (pus_if (pu_cmp (pu_oe (pu_bin (pu_oe (pu_blt (pu_aconsO pu_ov pu_anil))) pu_ov)) (pu_oe pu_c)) (pus_ret pu_c) pus_nil)) pus_nil)) (pus_ret pu_v))).dr
abbrev TMn (n : Nat) : SM := MR (TF__law_drawn_word n) (TF__law_drawn_index n) (TF__law_same n) (TF_is_lyndon n) (TF__law_is_lyndon n) (TF_fall_of n) (TF__law_fall n) (TF_counts_of n) (TF__law_take n) (TF__law_words n) (TF_lyndon_words n) (TF_lyndon_count n) (TF_lyndon_indices n) (TF__law_indices n) (TF__law_moebius n) (TF__law_power n) (TF_moebius n) (TF_divisors n)
abbrev LT1 (n : Nat) : SM := P1 (TF__law_drawn_word n) (TF__law_drawn_index n) (TF__law_same n) (TF_is_lyndon n) (TF__law_is_lyndon n) (TF_fall_of n) (TF__law_fall n) (TF_counts_of n) (TF__law_take n) (TF__law_words n) (TF_lyndon_words n) (TF_lyndon_count n) (TF_lyndon_indices n) (TF__law_indices n) (TF__law_moebius n) (TF__law_power n) (TF_moebius n) (TF_divisors n)
abbrev LR1 (n : Nat) : SM := P1 (F__law_drawn_word n) (F__law_drawn_index n) (F__law_same n) (F_is_lyndon n) (F__law_is_lyndon n) (F_fall_of n) (F__law_fall n) (F_counts_of n) (F__law_take n) (F__law_words n) (F_lyndon_words n) (F_lyndon_count n) (F_lyndon_indices n) (F__law_indices n) (F__law_moebius n) (F__law_power n) (F_moebius n) (F_divisors n)
theorem dl1 (n : Nat) : DrS (LT1 n) (LR1 n) := by
  have dt__law_drawn_word := dt__law_drawn_word n
  have dt__law_drawn_index := dt__law_drawn_index n
  have dt__law_same := dt__law_same n
  have dt_is_lyndon := dt_is_lyndon n
  have dt__law_is_lyndon := dt__law_is_lyndon n
  have dt_fall_of := dt_fall_of n
  have dt__law_fall := dt__law_fall n
  have dt_counts_of := dt_counts_of n
  have dt__law_take := dt__law_take n
  have dt__law_words := dt__law_words n
  have dt_lyndon_words := dt_lyndon_words n
  have dt_lyndon_count := dt_lyndon_count n
  have dt_lyndon_indices := dt_lyndon_indices n
  have dt__law_indices := dt__law_indices n
  have dt__law_moebius := dt__law_moebius n
  have dt__law_power := dt__law_power n
  have dt_moebius := dt_moebius n
  have dt_divisors := dt_divisors n
  exact (drs_for (dr_any (dr_oe (dr_lst (dr_acons (dr_call dt__law_drawn_word (pu_acons pu_v (pu_acons pu_c pu_anil)).dr) (dr_acons (dr_call dt__law_drawn_index (pu_acons pu_v (pu_acons pu_c (pu_acons pu_c pu_anil))).dr) (pu_anil).dr))))) pu_name (drs_seq (drs_if (dr_cor (dr_cnot (dr_ce (dr_call dt__law_same (dr_acons (dr_call dt_is_lyndon (pu_acons pu_v pu_anil).dr) (dr_acons (dr_call dt__law_is_lyndon (pu_acons pu_v pu_anil).dr) (pu_anil).dr))))) (dr_cnot (dr_ce (dr_call dt__law_same (dr_acons (dr_call dt_fall_of (pu_acons pu_v pu_anil).dr) (dr_acons (dr_call dt__law_fall (pu_acons pu_v pu_anil).dr) (pu_anil).dr)))))) (pus_ret pu_c).dr (pus_nil).dr) (drs_seq (pus_setO (pu_lst pu_anil)).dr (drs_seq (drs_for (dr_any (dr_oe (dr_call dt__law_fall (pu_acons pu_v pu_anil).dr))) pu_name (pus_if (pu_cand (pu_cmp pu_ov (pu_oe (pu_lst pu_anil))) (pu_cmp (pu_oe (pu_bin (pu_oe (pu_bin pu_ov (pu_oe (pu_un (pu_oe pu_c))))) (pu_oe pu_c))) pu_ov)) (pus_setIx (pu_oe (pu_un (pu_oe pu_c))) (pu_tup (pu_acons pu_v (pu_acons (pu_bin (pu_oe (pu_bin (pu_oe (pu_bin pu_ov (pu_oe (pu_un (pu_oe pu_c))))) (pu_oe pu_c))) (pu_oe pu_c)) pu_anil)))) (pus_app (pu_tup (pu_acons pu_v (pu_acons pu_c pu_anil))))).dr) (drs_frz (drs_if (dr_cnot (dr_ce (dr_call dt__law_same (dr_acons (dr_call dt_counts_of (dr_acons (dr_call dt__law_fall (pu_acons pu_v pu_anil).dr) (pu_anil).dr)) (pu_acons pu_v pu_anil).dr)))) (pus_ret pu_c).dr (pus_nil).dr))))))
abbrev LT2 (n : Nat) : SM := P2 (TF__law_drawn_word n) (TF__law_drawn_index n) (TF__law_same n) (TF_is_lyndon n) (TF__law_is_lyndon n) (TF_fall_of n) (TF__law_fall n) (TF_counts_of n) (TF__law_take n) (TF__law_words n) (TF_lyndon_words n) (TF_lyndon_count n) (TF_lyndon_indices n) (TF__law_indices n) (TF__law_moebius n) (TF__law_power n) (TF_moebius n) (TF_divisors n)
abbrev LR2 (n : Nat) : SM := P2 (F__law_drawn_word n) (F__law_drawn_index n) (F__law_same n) (F_is_lyndon n) (F__law_is_lyndon n) (F_fall_of n) (F__law_fall n) (F_counts_of n) (F__law_take n) (F__law_words n) (F_lyndon_words n) (F_lyndon_count n) (F_lyndon_indices n) (F__law_indices n) (F__law_moebius n) (F__law_power n) (F_moebius n) (F_divisors n)
theorem dl2 (n : Nat) : DrS (LT2 n) (LR2 n) := by
  have dt__law_drawn_word := dt__law_drawn_word n
  have dt__law_drawn_index := dt__law_drawn_index n
  have dt__law_same := dt__law_same n
  have dt_is_lyndon := dt_is_lyndon n
  have dt__law_is_lyndon := dt__law_is_lyndon n
  have dt_fall_of := dt_fall_of n
  have dt__law_fall := dt__law_fall n
  have dt_counts_of := dt_counts_of n
  have dt__law_take := dt__law_take n
  have dt__law_words := dt__law_words n
  have dt_lyndon_words := dt_lyndon_words n
  have dt_lyndon_count := dt_lyndon_count n
  have dt_lyndon_indices := dt_lyndon_indices n
  have dt__law_indices := dt__law_indices n
  have dt__law_moebius := dt__law_moebius n
  have dt__law_power := dt__law_power n
  have dt_moebius := dt_moebius n
  have dt_divisors := dt_divisors n
  exact (drs_set (dr_bin (pu_oe pu_c).dr (dr_oe (dr_call dt__law_take (pu_acons pu_v (pu_acons pu_c pu_anil)).dr))))
abbrev LT3 (n : Nat) : SM := P3 (TF__law_drawn_word n) (TF__law_drawn_index n) (TF__law_same n) (TF_is_lyndon n) (TF__law_is_lyndon n) (TF_fall_of n) (TF__law_fall n) (TF_counts_of n) (TF__law_take n) (TF__law_words n) (TF_lyndon_words n) (TF_lyndon_count n) (TF_lyndon_indices n) (TF__law_indices n) (TF__law_moebius n) (TF__law_power n) (TF_moebius n) (TF_divisors n)
abbrev LR3 (n : Nat) : SM := P3 (F__law_drawn_word n) (F__law_drawn_index n) (F__law_same n) (F_is_lyndon n) (F__law_is_lyndon n) (F_fall_of n) (F__law_fall n) (F_counts_of n) (F__law_take n) (F__law_words n) (F_lyndon_words n) (F_lyndon_count n) (F_lyndon_indices n) (F__law_indices n) (F__law_moebius n) (F__law_power n) (F_moebius n) (F_divisors n)
theorem dl3 (n : Nat) : DrS (LT3 n) (LR3 n) := by
  have dt__law_drawn_word := dt__law_drawn_word n
  have dt__law_drawn_index := dt__law_drawn_index n
  have dt__law_same := dt__law_same n
  have dt_is_lyndon := dt_is_lyndon n
  have dt__law_is_lyndon := dt__law_is_lyndon n
  have dt_fall_of := dt_fall_of n
  have dt__law_fall := dt__law_fall n
  have dt_counts_of := dt_counts_of n
  have dt__law_take := dt__law_take n
  have dt__law_words := dt__law_words n
  have dt_lyndon_words := dt_lyndon_words n
  have dt_lyndon_count := dt_lyndon_count n
  have dt_lyndon_indices := dt_lyndon_indices n
  have dt__law_indices := dt__law_indices n
  have dt__law_moebius := dt__law_moebius n
  have dt__law_power := dt__law_power n
  have dt_moebius := dt_moebius n
  have dt_divisors := dt_divisors n
  exact (drs_set (dr_comp (dr_any (dr_oe (dr_call dt__law_words (pu_acons pu_v pu_anil).dr))) pu_name (dr_ce (dr_call dt__law_is_lyndon (pu_acons pu_v pu_anil).dr)) (pu_v).dr))
abbrev LT4 (n : Nat) : SM := P4 (TF__law_drawn_word n) (TF__law_drawn_index n) (TF__law_same n) (TF_is_lyndon n) (TF__law_is_lyndon n) (TF_fall_of n) (TF__law_fall n) (TF_counts_of n) (TF__law_take n) (TF__law_words n) (TF_lyndon_words n) (TF_lyndon_count n) (TF_lyndon_indices n) (TF__law_indices n) (TF__law_moebius n) (TF__law_power n) (TF_moebius n) (TF_divisors n)
abbrev LR4 (n : Nat) : SM := P4 (F__law_drawn_word n) (F__law_drawn_index n) (F__law_same n) (F_is_lyndon n) (F__law_is_lyndon n) (F_fall_of n) (F__law_fall n) (F_counts_of n) (F__law_take n) (F__law_words n) (F_lyndon_words n) (F_lyndon_count n) (F_lyndon_indices n) (F__law_indices n) (F__law_moebius n) (F__law_power n) (F_moebius n) (F_divisors n)
theorem dl4 (n : Nat) : DrS (LT4 n) (LR4 n) := by
  have dt__law_drawn_word := dt__law_drawn_word n
  have dt__law_drawn_index := dt__law_drawn_index n
  have dt__law_same := dt__law_same n
  have dt_is_lyndon := dt_is_lyndon n
  have dt__law_is_lyndon := dt__law_is_lyndon n
  have dt_fall_of := dt_fall_of n
  have dt__law_fall := dt__law_fall n
  have dt_counts_of := dt_counts_of n
  have dt__law_take := dt__law_take n
  have dt__law_words := dt__law_words n
  have dt_lyndon_words := dt_lyndon_words n
  have dt_lyndon_count := dt_lyndon_count n
  have dt_lyndon_indices := dt_lyndon_indices n
  have dt__law_indices := dt__law_indices n
  have dt__law_moebius := dt__law_moebius n
  have dt__law_power := dt__law_power n
  have dt_moebius := dt_moebius n
  have dt_divisors := dt_divisors n
  exact (drs_if (dr_cnot (dr_ce (dr_call dt__law_same (dr_acons (dr_lst (dr_acons (dr_call dt_lyndon_words (pu_acons pu_v pu_anil).dr) (dr_acons (dr_call dt_lyndon_count (pu_acons pu_v (pu_acons pu_c pu_anil)).dr) (pu_anil).dr))) (pu_acons (pu_lst (pu_acons pu_v (pu_acons (pu_blt (pu_aconsO pu_ov pu_anil)) pu_anil))) pu_anil).dr)))) (pus_ret pu_c).dr (pus_nil).dr)
abbrev LT5 (n : Nat) : SM := P5 (TF__law_drawn_word n) (TF__law_drawn_index n) (TF__law_same n) (TF_is_lyndon n) (TF__law_is_lyndon n) (TF_fall_of n) (TF__law_fall n) (TF_counts_of n) (TF__law_take n) (TF__law_words n) (TF_lyndon_words n) (TF_lyndon_count n) (TF_lyndon_indices n) (TF__law_indices n) (TF__law_moebius n) (TF__law_power n) (TF_moebius n) (TF_divisors n)
abbrev LR5 (n : Nat) : SM := P5 (F__law_drawn_word n) (F__law_drawn_index n) (F__law_same n) (F_is_lyndon n) (F__law_is_lyndon n) (F_fall_of n) (F__law_fall n) (F_counts_of n) (F__law_take n) (F__law_words n) (F_lyndon_words n) (F_lyndon_count n) (F_lyndon_indices n) (F__law_indices n) (F__law_moebius n) (F__law_power n) (F_moebius n) (F_divisors n)
theorem dl5 (n : Nat) : DrS (LT5 n) (LR5 n) := by
  have dt__law_drawn_word := dt__law_drawn_word n
  have dt__law_drawn_index := dt__law_drawn_index n
  have dt__law_same := dt__law_same n
  have dt_is_lyndon := dt_is_lyndon n
  have dt__law_is_lyndon := dt__law_is_lyndon n
  have dt_fall_of := dt_fall_of n
  have dt__law_fall := dt__law_fall n
  have dt_counts_of := dt_counts_of n
  have dt__law_take := dt__law_take n
  have dt__law_words := dt__law_words n
  have dt_lyndon_words := dt_lyndon_words n
  have dt_lyndon_count := dt_lyndon_count n
  have dt_lyndon_indices := dt_lyndon_indices n
  have dt__law_indices := dt__law_indices n
  have dt__law_moebius := dt__law_moebius n
  have dt__law_power := dt__law_power n
  have dt_moebius := dt_moebius n
  have dt_divisors := dt_divisors n
  exact (drs_if (dr_cnot (dr_ce (dr_call dt__law_same (dr_acons (dr_call dt_lyndon_indices (pu_acons pu_v pu_anil).dr) (dr_acons (dr_comp (dr_any (dr_oe (dr_call dt__law_indices (pu_acons pu_v pu_anil).dr))) pu_name (dr_ce (dr_call dt__law_is_lyndon (pu_acons pu_v pu_anil).dr)) (pu_v).dr) (pu_anil).dr))))) (pus_ret pu_c).dr (pus_nil).dr)
abbrev LT6 (n : Nat) : SM := P6 (TF__law_drawn_word n) (TF__law_drawn_index n) (TF__law_same n) (TF_is_lyndon n) (TF__law_is_lyndon n) (TF_fall_of n) (TF__law_fall n) (TF_counts_of n) (TF__law_take n) (TF__law_words n) (TF_lyndon_words n) (TF_lyndon_count n) (TF_lyndon_indices n) (TF__law_indices n) (TF__law_moebius n) (TF__law_power n) (TF_moebius n) (TF_divisors n)
abbrev LR6 (n : Nat) : SM := P6 (F__law_drawn_word n) (F__law_drawn_index n) (F__law_same n) (F_is_lyndon n) (F__law_is_lyndon n) (F_fall_of n) (F__law_fall n) (F_counts_of n) (F__law_take n) (F__law_words n) (F_lyndon_words n) (F_lyndon_count n) (F_lyndon_indices n) (F__law_indices n) (F__law_moebius n) (F__law_power n) (F_moebius n) (F_divisors n)
theorem dl6 (n : Nat) : DrS (LT6 n) (LR6 n) := by
  have dt__law_drawn_word := dt__law_drawn_word n
  have dt__law_drawn_index := dt__law_drawn_index n
  have dt__law_same := dt__law_same n
  have dt_is_lyndon := dt_is_lyndon n
  have dt__law_is_lyndon := dt__law_is_lyndon n
  have dt_fall_of := dt_fall_of n
  have dt__law_fall := dt__law_fall n
  have dt_counts_of := dt_counts_of n
  have dt__law_take := dt__law_take n
  have dt__law_words := dt__law_words n
  have dt_lyndon_words := dt_lyndon_words n
  have dt_lyndon_count := dt_lyndon_count n
  have dt_lyndon_indices := dt_lyndon_indices n
  have dt__law_indices := dt__law_indices n
  have dt__law_moebius := dt__law_moebius n
  have dt__law_power := dt__law_power n
  have dt_moebius := dt_moebius n
  have dt_divisors := dt_divisors n
  exact (drs_set (dr_bin (pu_oe pu_c).dr (dr_oe (dr_call dt__law_take (pu_acons pu_v (pu_acons pu_c pu_anil)).dr))))
abbrev LT7 (n : Nat) : SM := P7 (TF__law_drawn_word n) (TF__law_drawn_index n) (TF__law_same n) (TF_is_lyndon n) (TF__law_is_lyndon n) (TF_fall_of n) (TF__law_fall n) (TF_counts_of n) (TF__law_take n) (TF__law_words n) (TF_lyndon_words n) (TF_lyndon_count n) (TF_lyndon_indices n) (TF__law_indices n) (TF__law_moebius n) (TF__law_power n) (TF_moebius n) (TF_divisors n)
abbrev LR7 (n : Nat) : SM := P7 (F__law_drawn_word n) (F__law_drawn_index n) (F__law_same n) (F_is_lyndon n) (F__law_is_lyndon n) (F_fall_of n) (F__law_fall n) (F_counts_of n) (F__law_take n) (F__law_words n) (F_lyndon_words n) (F_lyndon_count n) (F_lyndon_indices n) (F__law_indices n) (F__law_moebius n) (F__law_power n) (F_moebius n) (F_divisors n)
theorem dl7 (n : Nat) : DrS (LT7 n) (LR7 n) := by
  have dt__law_drawn_word := dt__law_drawn_word n
  have dt__law_drawn_index := dt__law_drawn_index n
  have dt__law_same := dt__law_same n
  have dt_is_lyndon := dt_is_lyndon n
  have dt__law_is_lyndon := dt__law_is_lyndon n
  have dt_fall_of := dt_fall_of n
  have dt__law_fall := dt__law_fall n
  have dt_counts_of := dt_counts_of n
  have dt__law_take := dt__law_take n
  have dt__law_words := dt__law_words n
  have dt_lyndon_words := dt_lyndon_words n
  have dt_lyndon_count := dt_lyndon_count n
  have dt_lyndon_indices := dt_lyndon_indices n
  have dt__law_indices := dt__law_indices n
  have dt__law_moebius := dt__law_moebius n
  have dt__law_power := dt__law_power n
  have dt_moebius := dt_moebius n
  have dt_divisors := dt_divisors n
  exact (drs_set (dr_blt (dr_aconsO (dr_oe (dr_comp (pu_rg2 (pu_acons pu_c (pu_acons (pu_bin pu_ov (pu_oe pu_c)) pu_anil))).dr pu_name (pu_cmp (pu_oe (pu_bin pu_ov pu_ov)) (pu_oe pu_c)).dr (dr_bin (dr_oe (dr_call dt__law_moebius (pu_acons pu_v pu_anil).dr)) (dr_oe (dr_call dt__law_power (pu_acons pu_v (pu_acons (pu_bin pu_ov pu_ov) pu_anil)).dr))))) (pu_anil).dr)))
abbrev LT8 (n : Nat) : SM := P8 (TF__law_drawn_word n) (TF__law_drawn_index n) (TF__law_same n) (TF_is_lyndon n) (TF__law_is_lyndon n) (TF_fall_of n) (TF__law_fall n) (TF_counts_of n) (TF__law_take n) (TF__law_words n) (TF_lyndon_words n) (TF_lyndon_count n) (TF_lyndon_indices n) (TF__law_indices n) (TF__law_moebius n) (TF__law_power n) (TF_moebius n) (TF_divisors n)
abbrev LR8 (n : Nat) : SM := P8 (F__law_drawn_word n) (F__law_drawn_index n) (F__law_same n) (F_is_lyndon n) (F__law_is_lyndon n) (F_fall_of n) (F__law_fall n) (F_counts_of n) (F__law_take n) (F__law_words n) (F_lyndon_words n) (F_lyndon_count n) (F_lyndon_indices n) (F__law_indices n) (F__law_moebius n) (F__law_power n) (F_moebius n) (F_divisors n)
theorem dl8 (n : Nat) : DrS (LT8 n) (LR8 n) := by
  have dt__law_drawn_word := dt__law_drawn_word n
  have dt__law_drawn_index := dt__law_drawn_index n
  have dt__law_same := dt__law_same n
  have dt_is_lyndon := dt_is_lyndon n
  have dt__law_is_lyndon := dt__law_is_lyndon n
  have dt_fall_of := dt_fall_of n
  have dt__law_fall := dt__law_fall n
  have dt_counts_of := dt_counts_of n
  have dt__law_take := dt__law_take n
  have dt__law_words := dt__law_words n
  have dt_lyndon_words := dt_lyndon_words n
  have dt_lyndon_count := dt_lyndon_count n
  have dt_lyndon_indices := dt_lyndon_indices n
  have dt__law_indices := dt__law_indices n
  have dt__law_moebius := dt__law_moebius n
  have dt__law_power := dt__law_power n
  have dt_moebius := dt_moebius n
  have dt_divisors := dt_divisors n
  exact (drs_if (dr_cnot (dr_ce (dr_call dt__law_same (dr_acons (dr_bin (dr_oe (dr_call dt_lyndon_count (pu_acons pu_v (pu_acons pu_v pu_anil)).dr)) (pu_ov).dr) (pu_acons pu_v pu_anil).dr)))) (pus_ret pu_c).dr (pus_nil).dr)
abbrev LT9 (n : Nat) : SM := P9 (TF__law_drawn_word n) (TF__law_drawn_index n) (TF__law_same n) (TF_is_lyndon n) (TF__law_is_lyndon n) (TF_fall_of n) (TF__law_fall n) (TF_counts_of n) (TF__law_take n) (TF__law_words n) (TF_lyndon_words n) (TF_lyndon_count n) (TF_lyndon_indices n) (TF__law_indices n) (TF__law_moebius n) (TF__law_power n) (TF_moebius n) (TF_divisors n)
abbrev LR9 (n : Nat) : SM := P9 (F__law_drawn_word n) (F__law_drawn_index n) (F__law_same n) (F_is_lyndon n) (F__law_is_lyndon n) (F_fall_of n) (F__law_fall n) (F_counts_of n) (F__law_take n) (F__law_words n) (F_lyndon_words n) (F_lyndon_count n) (F_lyndon_indices n) (F__law_indices n) (F__law_moebius n) (F__law_power n) (F_moebius n) (F_divisors n)
theorem dl9 (n : Nat) : DrS (LT9 n) (LR9 n) := by
  have dt__law_drawn_word := dt__law_drawn_word n
  have dt__law_drawn_index := dt__law_drawn_index n
  have dt__law_same := dt__law_same n
  have dt_is_lyndon := dt_is_lyndon n
  have dt__law_is_lyndon := dt__law_is_lyndon n
  have dt_fall_of := dt_fall_of n
  have dt__law_fall := dt__law_fall n
  have dt_counts_of := dt_counts_of n
  have dt__law_take := dt__law_take n
  have dt__law_words := dt__law_words n
  have dt_lyndon_words := dt_lyndon_words n
  have dt_lyndon_count := dt_lyndon_count n
  have dt_lyndon_indices := dt_lyndon_indices n
  have dt__law_indices := dt__law_indices n
  have dt__law_moebius := dt__law_moebius n
  have dt__law_power := dt__law_power n
  have dt_moebius := dt_moebius n
  have dt_divisors := dt_divisors n
  exact (drs_set (dr_bin (pu_oe pu_c).dr (dr_oe (dr_call dt__law_take (pu_acons pu_v (pu_acons pu_c pu_anil)).dr))))
abbrev LT10 (n : Nat) : SM := P10 (TF__law_drawn_word n) (TF__law_drawn_index n) (TF__law_same n) (TF_is_lyndon n) (TF__law_is_lyndon n) (TF_fall_of n) (TF__law_fall n) (TF_counts_of n) (TF__law_take n) (TF__law_words n) (TF_lyndon_words n) (TF_lyndon_count n) (TF_lyndon_indices n) (TF__law_indices n) (TF__law_moebius n) (TF__law_power n) (TF_moebius n) (TF_divisors n)
abbrev LR10 (n : Nat) : SM := P10 (F__law_drawn_word n) (F__law_drawn_index n) (F__law_same n) (F_is_lyndon n) (F__law_is_lyndon n) (F_fall_of n) (F__law_fall n) (F_counts_of n) (F__law_take n) (F__law_words n) (F_lyndon_words n) (F_lyndon_count n) (F_lyndon_indices n) (F__law_indices n) (F__law_moebius n) (F__law_power n) (F_moebius n) (F_divisors n)
theorem dl10 (n : Nat) : DrS (LT10 n) (LR10 n) := by
  have dt__law_drawn_word := dt__law_drawn_word n
  have dt__law_drawn_index := dt__law_drawn_index n
  have dt__law_same := dt__law_same n
  have dt_is_lyndon := dt_is_lyndon n
  have dt__law_is_lyndon := dt__law_is_lyndon n
  have dt_fall_of := dt_fall_of n
  have dt__law_fall := dt__law_fall n
  have dt_counts_of := dt_counts_of n
  have dt__law_take := dt__law_take n
  have dt__law_words := dt__law_words n
  have dt_lyndon_words := dt_lyndon_words n
  have dt_lyndon_count := dt_lyndon_count n
  have dt_lyndon_indices := dt_lyndon_indices n
  have dt__law_indices := dt__law_indices n
  have dt__law_moebius := dt__law_moebius n
  have dt__law_power := dt__law_power n
  have dt_moebius := dt_moebius n
  have dt_divisors := dt_divisors n
  exact (drs_ret (dr_call dt__law_same (dr_acons (dr_lst (dr_acons (dr_call dt_moebius (pu_acons pu_v pu_anil).dr) (dr_acons (dr_call dt_divisors (pu_acons pu_v pu_anil).dr) (pu_anil).dr))) (dr_acons (dr_lst (dr_acons (dr_call dt__law_moebius (pu_acons pu_v pu_anil).dr) (pu_acons (pu_comp (pu_rg2 (pu_acons pu_c (pu_acons (pu_bin pu_ov (pu_oe pu_c)) pu_anil))) pu_name (pu_cmp (pu_oe (pu_bin pu_ov pu_ov)) (pu_oe pu_c)) pu_v) pu_anil).dr)) (pu_anil).dr))))
theorem dt_law (n : Nat) : DrS (TMn n) (MRn n) := (drs_seq (dl1 n) (drs_seq (dl2 n) (drs_seq (dl3 n) (drs_seq (dl4 n) (drs_seq (dl5 n) (drs_seq (dl6 n) (drs_seq (dl7 n) (drs_seq (dl8 n) (drs_seq (dl9 n) (dl10 n))))))))))
theorem big_F (n : Nat) (ns : List Int) (h63 : ns.length ≤ 63) (z : Int) : ∃ c, F__law_big (n + 2) [.kst (ns.map D.int), .int 0, .int 20] z = some (.lst [.int c], true, z) := by
  have hc : ∀ (k : Nat) (z : Int), ∃ r, F__law_cell (n + 1) [.kst (ns.map D.int), .int k] z = some (.int r, false, z) := fun k z => by
    obtain ⟨r, e, h⟩ := cellB_ok ns k h63 z
    refine ⟨r, ?_⟩
    have h' : B__law_cell [.sh (.kst (ns.map D.int)), .sh (.int k), .un] z = .rt (.int r) false e z := h
    show (match B__law_cell [.sh (.kst (ns.map D.int)), .sh (.int k), .un] z with | .rt d fr _ z' => some (d, fr, z') | .nx _ z' => some (.non, false, z') | _ => none) = _
    rw [h']
  obtain ⟨r, e, h⟩ := bigB_ok (.kst (ns.map D.int)) hc 20 (by decide) z
  refine ⟨r, ?_⟩
  have h' : B__law_big (F__law_cell (n + 1)) [.sh (.kst (ns.map D.int)), .sh (.int 0), .sh (.int 20), .un, .un] z = .rt (.lst [.int r]) true e z := h
  show (match B__law_big (F__law_cell (n + 1)) [.sh (.kst (ns.map D.int)), .sh (.int 0), .sh (.int 20), .un, .un] z with | .rt d fr _ z' => some (d, fr, z') | .nx _ z' => some (.non, false, z') | _ => none) = _
  rw [h']
theorem hm0 (n : Nat) (ns : List Int) (h63 : ns.length ≤ 63) : ∃ z z0, M0 (F__law_big (n + 2)) (.sh (.kst (ns.map D.int)) :: List.replicate (11 + 1) .un) 0 = .nx (.sh (.kst (ns.map D.int)) :: .ow (.lst [.int z]) :: List.replicate 11 .un) z0 := by
  obtain ⟨c, e⟩ := big_F n ns h63 0
  refine ⟨c, 0, ?_⟩
  have e1 : (eCall (F__law_big (n + 2)) (aCons (eV 0) (aCons (eC (.int 0)) (aCons (eC (.int 20)) aNil)))) (.sh (.kst (ns.map D.int)) :: List.replicate (11 + 1) .un) 0 = some (.lst [.int c], true, 0) := e
  unfold M0 sSetO
  rw [e1]
  rfl
end Lw

open PySem PySem.W PyProof.Rows in
set_option maxHeartbeats 0 in
open_top head for PySem.Challenge.rw_twowoven_k02_lyndon_rows
namespace Lw
open PySem PySem.Spec PyProof.Rows L2 Tw
def Te1 : EM := (eCall (TF__law_drawn_word 60) (aCons (eV 1) (aCons (eC (.int 9)) aNil)))
def Re1 : EM := (eCall (F__law_drawn_word 60) (aCons (eV 1) (aCons (eC (.int 9)) aNil)))
theorem de1 : DrE Te1 Re1 := by
  have dt__law_drawn_word := dt__law_drawn_word 60
  have dt__law_drawn_index := dt__law_drawn_index 60
  have dt__law_same := dt__law_same 60
  have dt_is_lyndon := dt_is_lyndon 60
  have dt__law_is_lyndon := dt__law_is_lyndon 60
  have dt_fall_of := dt_fall_of 60
  have dt__law_fall := dt__law_fall 60
  have dt_counts_of := dt_counts_of 60
  have dt__law_take := dt__law_take 60
  have dt__law_words := dt__law_words 60
  have dt_lyndon_words := dt_lyndon_words 60
  have dt_lyndon_count := dt_lyndon_count 60
  have dt_lyndon_indices := dt_lyndon_indices 60
  have dt__law_indices := dt__law_indices 60
  have dt__law_moebius := dt__law_moebius 60
  have dt__law_power := dt__law_power 60
  have dt_moebius := dt_moebius 60
  have dt_divisors := dt_divisors 60
  exact (dr_call dt__law_drawn_word (pu_acons pu_v (pu_acons pu_c pu_anil)).dr)
def Te2 : EM := (eCall (TF__law_drawn_index 60) (aCons (eV 1) (aCons (eC (.int 9)) (aCons (eC (.bl false)) aNil))))
def Re2 : EM := (eCall (F__law_drawn_index 60) (aCons (eV 1) (aCons (eC (.int 9)) (aCons (eC (.bl false)) aNil))))
theorem de2 : DrE Te2 Re2 := by
  have dt__law_drawn_word := dt__law_drawn_word 60
  have dt__law_drawn_index := dt__law_drawn_index 60
  have dt__law_same := dt__law_same 60
  have dt_is_lyndon := dt_is_lyndon 60
  have dt__law_is_lyndon := dt__law_is_lyndon 60
  have dt_fall_of := dt_fall_of 60
  have dt__law_fall := dt__law_fall 60
  have dt_counts_of := dt_counts_of 60
  have dt__law_take := dt__law_take 60
  have dt__law_words := dt__law_words 60
  have dt_lyndon_words := dt_lyndon_words 60
  have dt_lyndon_count := dt_lyndon_count 60
  have dt_lyndon_indices := dt_lyndon_indices 60
  have dt__law_indices := dt__law_indices 60
  have dt__law_moebius := dt__law_moebius 60
  have dt__law_power := dt__law_power 60
  have dt_moebius := dt_moebius 60
  have dt_divisors := dt_divisors 60
  exact (dr_call dt__law_drawn_index (pu_acons pu_v (pu_acons pu_c (pu_acons pu_c pu_anil))).dr)
def Tbd : SM := (sSeq (sIf (cOr (cNot (cE (eCall (TF__law_same 60) (aCons (eCall (TF_is_lyndon 60) (aCons (eV 2) aNil)) (aCons (eCall (TF__law_is_lyndon 60) (aCons (eV 2) aNil)) aNil))))) (cNot (cE (eCall (TF__law_same 60) (aCons (eCall (TF_fall_of 60) (aCons (eV 2) aNil)) (aCons (eCall (TF__law_fall 60) (aCons (eV 2) aNil)) aNil)))))) (sRet (eC (.bl false))) sNil) (sSeq (sSetO 8 (eLst aNil)) (sSeq (sFor (iAny (oE (eCall (TF__law_fall 60) (aCons (eV 2) aNil)))) (bName 9) (sIf (cAnd (cCmp fNe (oV 8) (oE (eLst aNil))) (cCmp fEq (oE (mBin dIx (oE (mBin dIx (oV 8) (oE (mUn dNeg (oE (eC (.int 1))))))) (oE (eC (.int 0))))) (oV 9))) (sSetIx 8 (oE (mUn dNeg (oE (eC (.int 1))))) (eTup (aCons (eV 9) (aCons (mBin fAdd (oE (mBin dIx (oE (mBin dIx (oV 8) (oE (mUn dNeg (oE (eC (.int 1))))))) (oE (eC (.int 1))))) (oE (eC (.int 1)))) aNil)))) (sApp 8 (eTup (aCons (eV 9) (aCons (eC (.int 1)) aNil)))))) (sFrz 8 (sIf (cNot (cE (eCall (TF__law_same 60) (aCons (eCall (TF_counts_of 60) (aCons (eCall (TF__law_fall 60) (aCons (eV 2) aNil)) aNil)) (aCons (eV 8) aNil))))) (sRet (eC (.bl false))) sNil)))))
def Rbd : SM := (sSeq (sIf (cOr (cNot (cE (eCall (F__law_same 60) (aCons (eCall (F_is_lyndon 60) (aCons (eV 2) aNil)) (aCons (eCall (F__law_is_lyndon 60) (aCons (eV 2) aNil)) aNil))))) (cNot (cE (eCall (F__law_same 60) (aCons (eCall (F_fall_of 60) (aCons (eV 2) aNil)) (aCons (eCall (F__law_fall 60) (aCons (eV 2) aNil)) aNil)))))) (sRet (eC (.bl false))) sNil) (sSeq (sSetO 8 (eLst aNil)) (sSeq (sFor (iAny (oE (eCall (F__law_fall 60) (aCons (eV 2) aNil)))) (bName 9) (sIf (cAnd (cCmp fNe (oV 8) (oE (eLst aNil))) (cCmp fEq (oE (mBin dIx (oE (mBin dIx (oV 8) (oE (mUn dNeg (oE (eC (.int 1))))))) (oE (eC (.int 0))))) (oV 9))) (sSetIx 8 (oE (mUn dNeg (oE (eC (.int 1))))) (eTup (aCons (eV 9) (aCons (mBin fAdd (oE (mBin dIx (oE (mBin dIx (oV 8) (oE (mUn dNeg (oE (eC (.int 1))))))) (oE (eC (.int 1))))) (oE (eC (.int 1)))) aNil)))) (sApp 8 (eTup (aCons (eV 9) (aCons (eC (.int 1)) aNil)))))) (sFrz 8 (sIf (cNot (cE (eCall (F__law_same 60) (aCons (eCall (F_counts_of 60) (aCons (eCall (F__law_fall 60) (aCons (eV 2) aNil)) aNil)) (aCons (eV 8) aNil))))) (sRet (eC (.bl false))) sNil)))))
theorem dbd : DrS Tbd Rbd := by
  have dt__law_drawn_word := dt__law_drawn_word 60
  have dt__law_drawn_index := dt__law_drawn_index 60
  have dt__law_same := dt__law_same 60
  have dt_is_lyndon := dt_is_lyndon 60
  have dt__law_is_lyndon := dt__law_is_lyndon 60
  have dt_fall_of := dt_fall_of 60
  have dt__law_fall := dt__law_fall 60
  have dt_counts_of := dt_counts_of 60
  have dt__law_take := dt__law_take 60
  have dt__law_words := dt__law_words 60
  have dt_lyndon_words := dt_lyndon_words 60
  have dt_lyndon_count := dt_lyndon_count 60
  have dt_lyndon_indices := dt_lyndon_indices 60
  have dt__law_indices := dt__law_indices 60
  have dt__law_moebius := dt__law_moebius 60
  have dt__law_power := dt__law_power 60
  have dt_moebius := dt_moebius 60
  have dt_divisors := dt_divisors 60
  exact (drs_seq (drs_if (dr_cor (dr_cnot (dr_ce (dr_call dt__law_same (dr_acons (dr_call dt_is_lyndon (pu_acons pu_v pu_anil).dr) (dr_acons (dr_call dt__law_is_lyndon (pu_acons pu_v pu_anil).dr) (pu_anil).dr))))) (dr_cnot (dr_ce (dr_call dt__law_same (dr_acons (dr_call dt_fall_of (pu_acons pu_v pu_anil).dr) (dr_acons (dr_call dt__law_fall (pu_acons pu_v pu_anil).dr) (pu_anil).dr)))))) (pus_ret pu_c).dr (pus_nil).dr) (drs_seq (pus_setO (pu_lst pu_anil)).dr (drs_seq (drs_for (dr_any (dr_oe (dr_call dt__law_fall (pu_acons pu_v pu_anil).dr))) pu_name (pus_if (pu_cand (pu_cmp pu_ov (pu_oe (pu_lst pu_anil))) (pu_cmp (pu_oe (pu_bin (pu_oe (pu_bin pu_ov (pu_oe (pu_un (pu_oe pu_c))))) (pu_oe pu_c))) pu_ov)) (pus_setIx (pu_oe (pu_un (pu_oe pu_c))) (pu_tup (pu_acons pu_v (pu_acons (pu_bin (pu_oe (pu_bin (pu_oe (pu_bin pu_ov (pu_oe (pu_un (pu_oe pu_c))))) (pu_oe pu_c))) (pu_oe pu_c)) pu_anil)))) (pus_app (pu_tup (pu_acons pu_v (pu_acons pu_c pu_anil))))).dr) (drs_frz (drs_if (dr_cnot (dr_ce (dr_call dt__law_same (dr_acons (dr_call dt_counts_of (dr_acons (dr_call dt__law_fall (pu_acons pu_v pu_anil).dr) (pu_anil).dr)) (pu_acons pu_v pu_anil).dr)))) (pus_ret pu_c).dr (pus_nil).dr)))))
def tW : Nat → List Nat
  | 0 => [0]
  | n + 1 => nd 2 fun _ => tW n
theorem cov_tW : ∀ n, Cov (tW n)
  | 0 => cov_nil
  | n + 1 => cov_nd fun _ => cov_tW n
def T1 : List Nat := nd 10 tW
def T2 : List Nat := nd 9 fun r => nd (Nat.pow 2 r) fun _ => [0]
def ok1 (t : Nat) : Bool := match Te1 (env0 11) (.ofNat t) with | some (d, _, _) => goes 11 (Tbd ((env0 11).set 2 (.sh d)) 0) | none => false
def ok2 (t : Nat) : Bool := match Te2 (env0 11) (.ofNat t) with | some (d, _, _) => goes 11 (Tbd ((env0 11).set 2 (.sh d)) 0) | none => false
theorem k1_0 : ((T1.drop (128 * 0)).take 128).all ok1 = true := by decide +kernel
theorem k1_1 : ((T1.drop (128 * 1)).take 128).all ok1 = true := by decide +kernel
theorem k1_2 : ((T1.drop (128 * 2)).take 128).all ok1 = true := by decide +kernel
theorem k1_3 : ((T1.drop (128 * 3)).take 128).all ok1 = true := by decide +kernel
theorem k1_4 : ((T1.drop (128 * 4)).take 128).all ok1 = true := by decide +kernel
theorem k1_5 : ((T1.drop (128 * 5)).take 128).all ok1 = true := by decide +kernel
theorem k1_6 : ((T1.drop (128 * 6)).take 128).all ok1 = true := by decide +kernel
theorem k1_7 : ((T1.drop (128 * 7)).take 128).all ok1 = true := by decide +kernel
theorem k1_ : T1.all ok1 = true := all_chunks 128 8 (by decide) (by decide +kernel) fun i h => match i, h with
  | 0, _ => k1_0
  | 1, _ => k1_1
  | 2, _ => k1_2
  | 3, _ => k1_3
  | 4, _ => k1_4
  | 5, _ => k1_5
  | 6, _ => k1_6
  | 7, _ => k1_7
  | i + 8, h => absurd h (by omega)
theorem k2_0 : ((T2.drop (128 * 0)).take 128).all ok2 = true := by decide +kernel
theorem k2_1 : ((T2.drop (128 * 1)).take 128).all ok2 = true := by decide +kernel
theorem k2_2 : ((T2.drop (128 * 2)).take 128).all ok2 = true := by decide +kernel
theorem k2_3 : ((T2.drop (128 * 3)).take 128).all ok2 = true := by decide +kernel
theorem k2_ : T2.all ok2 = true := all_chunks 128 4 (by decide) (by decide +kernel) fun i h => match i, h with
  | 0, _ => k2_0
  | 1, _ => k2_1
  | 2, _ => k2_2
  | 3, _ => k2_3
  | i + 4, h => absurd h (by omega)

def T3 : List Nat := nd 7 fun _ => nd 4 fun _ => [0]
def T4 : List Nat := nd 60 fun _ => [0]
abbrev S2 : SM := (sSeq (LT2 60) (sSeq (LT3 60) (sSeq (LT4 60) (sSeq (LT5 60) (sSeq (LT6 60) (sSeq (LT7 60) (LT8 60)))))))
def ok3 (t : Nat) : Bool := goes 11 (S2 (env0 11) (.ofNat t))
def ok4 (t : Nat) : Bool := yes ((sSeq (LT9 60) (LT10 60)) (env0 11) (.ofNat t))
theorem k3_0 : ((T3.drop (4 * 0)).take 4).all ok3 = true := by decide +kernel
theorem k3_1 : ((T3.drop (4 * 1)).take 4).all ok3 = true := by decide +kernel
theorem k3_2 : ((T3.drop (4 * 2)).take 4).all ok3 = true := by decide +kernel
theorem k3_3 : ((T3.drop (4 * 3)).take 4).all ok3 = true := by decide +kernel
theorem k3_4 : ((T3.drop (4 * 4)).take 4).all ok3 = true := by decide +kernel
theorem k3_5 : ((T3.drop (4 * 5)).take 4).all ok3 = true := by decide +kernel
theorem k3_6 : ((T3.drop (4 * 6)).take 4).all ok3 = true := by decide +kernel
theorem k3_ : T3.all ok3 = true := all_chunks 4 7 (by decide) (by decide +kernel) fun i h => match i, h with
  | 0, _ => k3_0
  | 1, _ => k3_1
  | 2, _ => k3_2
  | 3, _ => k3_3
  | 4, _ => k3_4
  | 5, _ => k3_5
  | 6, _ => k3_6
  | i + 7, h => absurd h (by omega)
theorem k4_0 : ((T4.drop (20 * 0)).take 20).all ok4 = true := by decide +kernel
theorem k4_1 : ((T4.drop (20 * 1)).take 20).all ok4 = true := by decide +kernel
theorem k4_2 : ((T4.drop (20 * 2)).take 20).all ok4 = true := by decide +kernel
theorem k4_ : T4.all ok4 = true := all_chunks 20 3 (by decide) (by decide +kernel) fun i h => match i, h with
  | 0, _ => k4_0
  | 1, _ => k4_1
  | 2, _ => k4_2
  | i + 3, h => absurd h (by omega)

theorem hm : Holds' 11 (MRn 60) := by
  have s3 : From0 11 (sSeq (LR9 60) (LR10 60)) := from0_last (drs_seq (dl9 60) (dl10 60)) T4 (cov_nd fun _ => cov_nil) k4_
  have s2 := from0_seq (drs_seq (dl2 60) (drs_seq (dl3 60) (drs_seq (dl4 60) (drs_seq (dl5 60) (drs_seq (dl6 60) (drs_seq (dl7 60) (dl8 60))))))) T3 (cov_nd fun _ => cov_nd fun _ => cov_nil) k3_ s3
  simp only [sSeq_assoc] at s2
  have s1 := from0_for2 (i := 2) de1 de2 dbd T1 T2 (cov_nd cov_tW) (cov_nd fun r => cov_nd fun _ => cov_nil) k1_ k2_ s2
  exact From0.holds s1

theorem fin {P : Program} {w : World} {K : PySem.W.Frag} {mg : Str → Option Value} {fa : Addr} {h : Heap} (_ : K.In h) (hfa : mg "law" = some (.ref fa))
    (z_bool : mg "bool" = none)
    (z_dict : mg "dict" = none)
    (z_int : mg "int" = none)
    (z_isinstance : mg "isinstance" = none)
    (z_len : mg "len" = none)
    (z_list : mg "list" = none)
    (z_max : mg "max" = none)
    (z_range : mg "range" = none)
    (z_sorted : mg "sorted" = none)
    (z_str : mg "str" = none)
    (z_sum : mg "sum" = none)
    (z_tuple : mg "tuple" = none)
    (e_divisors : DefIn K mg "divisors" s_divisors ["number"])
    (e_moebius : DefIn K mg "moebius" s_moebius ["number"])
    (e_all_indices : DefIn K mg "all_indices" s_all_indices ["size"])
    (e_all_words : DefIn K mg "all_words" s_all_words ["length"])
    (e_is_lyndon : DefIn K mg "is_lyndon" s_is_lyndon ["row"])
    (e_lyndon_words : DefIn K mg "lyndon_words" s_lyndon_words ["length"])
    (e_lyndon_indices : DefIn K mg "lyndon_indices" s_lyndon_indices ["size"])
    (e_power : DefIn K mg "power" s_power ["number", "count"])
    (e_lyndon_count : DefIn K mg "lyndon_count" s_lyndon_count ["length", "letters"])
    (e_longest_lyndon : DefIn K mg "longest_lyndon" s_longest_lyndon ["row", "start"])
    (e_fall_of : DefIn K mg "fall_of" s_fall_of ["row"])
    (e_counts_of : DefIn K mg "counts_of" s_counts_of ["rows"])
    (e__law_cell : DefIn K mg "_law_cell" s__law_cell ["script", "k"])
    (e__law_big : DefIn K mg "_law_big" s__law_big ["script", "at", "count"])
    (e__law_take : DefIn K mg "_law_take" s__law_take ["state", "m"])
    (e__law_same : DefIn K mg "_law_same" s__law_same ["told", "due"])
    (e__law_power : DefIn K mg "_law_power" s__law_power ["number", "count"])
    (e__law_indices : DefIn K mg "_law_indices" s__law_indices ["size"])
    (e__law_admissible : DefIn K mg "_law_admissible" s__law_admissible ["size"])
    (e__law_drawn_index : DefIn K mg "_law_drawn_index" s__law_drawn_index ["state", "most", "admissible"])
    (e__law_drawn_word : DefIn K mg "_law_drawn_word" s__law_drawn_word ["state", "most"])
    (e__law_words : DefIn K mg "_law_words" s__law_words ["length"])
    (e__law_is_lyndon : DefIn K mg "_law_is_lyndon" s__law_is_lyndon ["row"])
    (e__law_fall : DefIn K mg "_law_fall" s__law_fall ["row"])
    (e__law_moebius : DefIn K mg "_law_moebius" s__law_moebius ["n"])
    (e_law : DefLaw K mg "law" s_law "script")
    : ∃ fd : FuncData, (∀ (s : Shared) (v : Value), BindsTo s fd ⟨[v], []⟩ [("script", v)]) ∧ ∀ base : Heap, K.In base → base.Ns mainGlobals mg → FnOk P w K mg base CX0 61 fa fd ["script"] (spL K) := by
  obtain ⟨f, fd, F, hf, hb⟩ := e_law
  have e : f = fa := by rw [hfa] at hf; cases hf; rfl
  subst e
  refine ⟨fd, fun s v => .of_eq (hb v), fun base _ _ => ?_⟩
  exact ok_law (g := ⟨P, w, K, mg, base, none, fun _ => none⟩) ⟨z_bool, z_dict, z_int, z_isinstance, z_len, z_list, z_max, z_range, z_sorted, z_str, z_sum, z_tuple, e_divisors, e_moebius, e_all_indices, e_all_words, e_is_lyndon, e_lyndon_words, e_lyndon_indices, e_power, e_lyndon_count, e_longest_lyndon, e_fall_of, e_counts_of, e__law_cell, e__law_big, e__law_take, e__law_same, e__law_power, e__law_indices, e__law_admissible, e__law_drawn_index, e__law_drawn_word, e__law_words, e__law_is_lyndon, e__law_fall, e__law_moebius⟩ 60 F rfl hm (fun ns h63 => hm0 58 ns h63)
end Lw

open PySem PySem.W PyProof.Rows
set_option maxHeartbeats 0 in
theorem PySem.Challenge.cw_twowoven_k02_lyndon_rows_holds : PySem.Challenge.rw_twowoven_k02_lyndon_rows.Holds := by
  w_on; o_law; k_head; (case hw => w_witness2)
  k_fill
  refine L2.walk_of (l := PySem.Challenge.rw_twowoven_k02_lyndon_rows) (n := 63) (k := 61) (x := "script") (CX := fun _ => L2.CX0) (sp := fun w => Tw.spL _) rfl (by decide) rfl ⟨rfl, by decide, by decide⟩ (fun w h Y => PySem.W.kIn_of Y) ?F (fun _ _ a ns hl _ hS => ⟨a, ns, rfl, hS, hl, fun _ => rfl⟩) (fun _ _ _ _ _ h => h)
  case F =>
    intro w mg fa h KX G hmg
    refine' Lw.fin KX hmg ?z_bool ?z_dict ?z_int ?z_isinstance ?z_len ?z_list ?z_max ?z_range ?z_sorted ?z_str ?z_sum ?z_tuple ?e_divisors ?e_moebius ?e_all_indices ?e_all_words ?e_is_lyndon ?e_lyndon_words ?e_lyndon_indices ?e_power ?e_lyndon_count ?e_longest_lyndon ?e_fall_of ?e_counts_of ?e__law_cell ?e__law_big ?e__law_take ?e__law_same ?e__law_power ?e__law_indices ?e__law_admissible ?e__law_drawn_index ?e__law_drawn_word ?e__law_words ?e__law_is_lyndon ?e__law_fall ?e__law_moebius ?e_law
    case e_divisors =>
      refine' Tw.defIn_mk KX G ?a ?l ?c ?k (fun _ _ _ _ _ _ us hl => match us, hl with | [_], _ => rfl)
      (case a => k_is); (case l => k_is); (case c => k_is); (case k => k_is)
    case e_moebius =>
      refine' Tw.defIn_mk KX G ?a ?l ?c ?k (fun _ _ _ _ _ _ us hl => match us, hl with | [_], _ => rfl)
      (case a => k_is); (case l => k_is); (case c => k_is); (case k => k_is)
    case e_all_indices =>
      refine' Tw.defIn_mk KX G ?a ?l ?c ?k (fun _ _ _ _ _ _ us hl => match us, hl with | [_], _ => rfl)
      (case a => k_is); (case l => k_is); (case c => k_is); (case k => k_is)
    case e_all_words =>
      refine' Tw.defIn_mk KX G ?a ?l ?c ?k (fun _ _ _ _ _ _ us hl => match us, hl with | [_], _ => rfl)
      (case a => k_is); (case l => k_is); (case c => k_is); (case k => k_is)
    case e_is_lyndon =>
      refine' Tw.defIn_mk KX G ?a ?l ?c ?k (fun _ _ _ _ _ _ us hl => match us, hl with | [_], _ => rfl)
      (case a => k_is); (case l => k_is); (case c => k_is); (case k => k_is)
    case e_lyndon_words =>
      refine' Tw.defIn_mk KX G ?a ?l ?c ?k (fun _ _ _ _ _ _ us hl => match us, hl with | [_], _ => rfl)
      (case a => k_is); (case l => k_is); (case c => k_is); (case k => k_is)
    case e_lyndon_indices =>
      refine' Tw.defIn_mk KX G ?a ?l ?c ?k (fun _ _ _ _ _ _ us hl => match us, hl with | [_], _ => rfl)
      (case a => k_is); (case l => k_is); (case c => k_is); (case k => k_is)
    case e_power =>
      refine' Tw.defIn_mk KX G ?a ?l ?c ?k (fun _ _ _ _ _ _ us hl => match us, hl with | [_, _], _ => rfl)
      (case a => k_is); (case l => k_is); (case c => k_is); (case k => k_is)
    case e_lyndon_count =>
      refine' Tw.defIn_mk KX G ?a ?l ?c ?k (fun _ _ _ _ _ _ us hl => match us, hl with | [_, _], _ => rfl)
      (case a => k_is); (case l => k_is); (case c => k_is); (case k => k_is)
    case e_longest_lyndon =>
      refine' Tw.defIn_mk KX G ?a ?l ?c ?k (fun _ _ _ _ _ _ us hl => match us, hl with | [_, _], _ => rfl)
      (case a => k_is); (case l => k_is); (case c => k_is); (case k => k_is)
    case e_fall_of =>
      refine' Tw.defIn_mk KX G ?a ?l ?c ?k (fun _ _ _ _ _ _ us hl => match us, hl with | [_], _ => rfl)
      (case a => k_is); (case l => k_is); (case c => k_is); (case k => k_is)
    case e_counts_of =>
      refine' Tw.defIn_mk KX G ?a ?l ?c ?k (fun _ _ _ _ _ _ us hl => match us, hl with | [_], _ => rfl)
      (case a => k_is); (case l => k_is); (case c => k_is); (case k => k_is)
    case e__law_cell =>
      refine' Tw.defIn_mk KX G ?a ?l ?c ?k (fun _ _ _ _ _ _ us hl => match us, hl with | [_, _], _ => rfl)
      (case a => k_is); (case l => k_is); (case c => k_is); (case k => k_is)
    case e__law_big =>
      refine' Tw.defIn_mk KX G ?a ?l ?c ?k (fun _ _ _ _ _ _ us hl => match us, hl with | [_, _, _], _ => rfl)
      (case a => k_is); (case l => k_is); (case c => k_is); (case k => k_is)
    case e__law_take =>
      refine' Tw.defIn_mk KX G ?a ?l ?c ?k (fun _ _ _ _ _ _ us hl => match us, hl with | [_, _], _ => rfl)
      (case a => k_is); (case l => k_is); (case c => k_is); (case k => k_is)
    case e__law_same =>
      refine' Tw.defIn_mk KX G ?a ?l ?c ?k (fun _ _ _ _ _ _ us hl => match us, hl with | [_, _], _ => rfl)
      (case a => k_is); (case l => k_is); (case c => k_is); (case k => k_is)
    case e__law_power =>
      refine' Tw.defIn_mk KX G ?a ?l ?c ?k (fun _ _ _ _ _ _ us hl => match us, hl with | [_, _], _ => rfl)
      (case a => k_is); (case l => k_is); (case c => k_is); (case k => k_is)
    case e__law_indices =>
      refine' Tw.defIn_mk KX G ?a ?l ?c ?k (fun _ _ _ _ _ _ us hl => match us, hl with | [_], _ => rfl)
      (case a => k_is); (case l => k_is); (case c => k_is); (case k => k_is)
    case e__law_admissible =>
      refine' Tw.defIn_mk KX G ?a ?l ?c ?k (fun _ _ _ _ _ _ us hl => match us, hl with | [_], _ => rfl)
      (case a => k_is); (case l => k_is); (case c => k_is); (case k => k_is)
    case e__law_drawn_index =>
      refine' Tw.defIn_mk KX G ?a ?l ?c ?k (fun _ _ _ _ _ _ us hl => match us, hl with | [_, _, _], _ => rfl)
      (case a => k_is); (case l => k_is); (case c => k_is); (case k => k_is)
    case e__law_drawn_word =>
      refine' Tw.defIn_mk KX G ?a ?l ?c ?k (fun _ _ _ _ _ _ us hl => match us, hl with | [_, _], _ => rfl)
      (case a => k_is); (case l => k_is); (case c => k_is); (case k => k_is)
    case e__law_words =>
      refine' Tw.defIn_mk KX G ?a ?l ?c ?k (fun _ _ _ _ _ _ us hl => match us, hl with | [_], _ => rfl)
      (case a => k_is); (case l => k_is); (case c => k_is); (case k => k_is)
    case e__law_is_lyndon =>
      refine' Tw.defIn_mk KX G ?a ?l ?c ?k (fun _ _ _ _ _ _ us hl => match us, hl with | [_], _ => rfl)
      (case a => k_is); (case l => k_is); (case c => k_is); (case k => k_is)
    case e__law_fall =>
      refine' Tw.defIn_mk KX G ?a ?l ?c ?k (fun _ _ _ _ _ _ us hl => match us, hl with | [_], _ => rfl)
      (case a => k_is); (case l => k_is); (case c => k_is); (case k => k_is)
    case e__law_moebius =>
      refine' Tw.defIn_mk KX G ?a ?l ?c ?k (fun _ _ _ _ _ _ us hl => match us, hl with | [_], _ => rfl)
      (case a => k_is); (case l => k_is); (case c => k_is); (case k => k_is)
    case e_law =>
      refine' Tw.defLaw_mk KX G ?a ?l ?c ?k (fun _ _ _ _ _ _ _ => rfl)
      (case a => k_is); (case l => k_is); (case c => k_is); (case k => k_is)
    case z_bool =>
      refine' PySem.W.mg_none_of KX G ?a
      (case a => k_is)
    case z_dict =>
      refine' PySem.W.mg_none_of KX G ?a
      (case a => k_is)
    case z_int =>
      refine' PySem.W.mg_none_of KX G ?a
      (case a => k_is)
    case z_isinstance =>
      refine' PySem.W.mg_none_of KX G ?a
      (case a => k_is)
    case z_len =>
      refine' PySem.W.mg_none_of KX G ?a
      (case a => k_is)
    case z_list =>
      refine' PySem.W.mg_none_of KX G ?a
      (case a => k_is)
    case z_max =>
      refine' PySem.W.mg_none_of KX G ?a
      (case a => k_is)
    case z_range =>
      refine' PySem.W.mg_none_of KX G ?a
      (case a => k_is)
    case z_sorted =>
      refine' PySem.W.mg_none_of KX G ?a
      (case a => k_is)
    case z_str =>
      refine' PySem.W.mg_none_of KX G ?a
      (case a => k_is)
    case z_sum =>
      refine' PySem.W.mg_none_of KX G ?a
      (case a => k_is)
    case z_tuple =>
      refine' PySem.W.mg_none_of KX G ?a
      (case a => k_is)
