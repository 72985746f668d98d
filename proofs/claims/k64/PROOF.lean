import PyProof.Rows.All
import Wide.All
import OpenK.AllK
import Wide.FinOn
import HandS.ForMost
import HandS.ForExc
import HandS.Deep
import HandS.IsInst
import HandS.Wide
import HandS.NoneIn
import HandS.Style
import HandS.CallLocal
import HandS.CallSlots
import HandS.Defaults
import PySem.Challenge.RW_huesandrounds_k64_whole_drums_of_any_num
import HandS.Head0
import HandS.Head1
import HandS.Head2
import HandS.HeadEnd
import HandS.HeadHook1
import HandS.HeadHook2
import KE.KStateDown
import Lean
import HandS.More
import HandS.WordsExc
section
set_option Elab.async false
set_option linter.all false
set_option maxRecDepth 100000
set_option maxHeartbeats 2000000
namespace Ev
open PySem L2

/-! ## The monad: a value, nothing known, an error, a draw -/
inductive M (α : Type) where
  | ok (a : α)
  | no
  | exc (c : Nat)
  | roll (n : Nat) (k : Nat → M α)

def M.bind {α β : Type} : M α → (α → M β) → M β
  | .ok a, f => f a
  | .no, _ => .no
  | .exc c, _ => .exc c
  | .roll n k, f => .roll n fun i => (k i).bind f

def wp {α : Type} : M α → (α → Prop) → (Nat → Prop) → Prop
  | .ok a, Q, _ => Q a
  | .no, _, _ => False
  | .exc c, _, E => E c
  | .roll n k, Q, E => ∀ i, i < n → wp (k i) Q E

theorem wp_mono {α : Type} {Q Q' : α → Prop} {E E' : Nat → Prop} : ∀ {m : M α}, wp m Q E → (∀ a, Q a → Q' a) → (∀ c, E c → E' c) → wp m Q' E'
  | .ok a, h, hq, _ => hq a h
  | .no, h, _, _ => h.elim
  | .exc c, h, _, he => he c h
  | .roll n k, h, hq, he => fun i hi => wp_mono (h i hi) hq he

theorem wp_bind {α β : Type} {Q : β → Prop} {E : Nat → Prop} {f : α → M β} : ∀ {m : M α}, wp (m.bind f) Q E → wp m (fun a => wp (f a) Q E) E
  | .ok a, h => h
  | .no, h => h
  | .exc c, h => h
  | .roll n k, h => fun i hi => wp_bind (h i hi)

theorem wp_bind' {α β : Type} {Q : β → Prop} {E : Nat → Prop} {f : α → M β} : ∀ {m : M α}, wp m (fun a => wp (f a) Q E) E → wp (m.bind f) Q E
  | .ok a, h => h
  | .no, h => h
  | .exc c, h => h
  | .roll n k, h => fun i hi => wp_bind' (h i hi)

/-- no error is let through -/
def M.sure {α : Type} : M α → M α
  | .ok a => .ok a
  | .no => .no
  | .exc _ => .no
  | .roll n k => .roll n fun i => (k i).sure

theorem wp_sure {α : Type} {Q : α → Prop} {E E' : Nat → Prop} : ∀ {m : M α}, wp m.sure Q E → wp m Q E'
  | .ok a, h => h
  | .no, h => h.elim
  | .exc c, h => h.elim
  | .roll n k, h => fun i hi => wp_sure (h i hi)

/-- the same as a structure: a look at a statement does not unfold it -/
structure Wp {α : Type} (m : M α) (Q : α → Prop) (E : Nat → Prop) : Prop where
  run : wp m Q E
/-! ## Values -/
inductive D where
  | dat (x : PyData)
  | fn (i : Nat)
  | keg
  | acc (xs : List PyData)

abbrev Env := List (Option D)

/-! ## Heaps seen without what may change -/
open Classical in
noncomputable def hide (H : Hp) (O : Addr → Prop) : Hp := fun a => if O a then none else H a

theorem hide_some {H : Hp} {O : Addr → Prop} {a : Addr} {o : HO} : hide H O a = some o ↔ ¬ O a ∧ H a = some o := by
  unfold hide
  by_cases h : O a
  · simp [h]
  · simp [h]

/-- what is drawn from: two numbers in a list -/
def KegAt (H : Hp) (a : Addr) : Prop := ∃ g k : Int, H a = some (.lst [.int g, .int k]) ∧ 0 ≤ g ∧ 0 ≤ k ∧ k < 4294967296

structure WOk (G O : Addr → Prop) (H : Hp) : Prop where
  sub : ∀ a, G a → O a
  dom : ∀ a, O a → H a ≠ none
  keg : ∀ a, G a → KegAt H a

structure Ext (G : Addr → Prop) (H H' : Hp) : Prop where
  same : ∀ b o, H b = some o → ¬ G b → H' b = some o
  keg : ∀ a, G a → KegAt H' a

theorem Ext.refl {G O : Addr → Prop} {H : Hp} (w : WOk G O H) : Ext G H H := ⟨fun _ _ h _ => h, w.keg⟩
theorem Ext.trans {G : Addr → Prop} {H H1 H2 : Hp} (a : Ext G H H1) (b : Ext G H1 H2) : Ext G H H2 :=
  ⟨fun c o h n => b.same c o (a.same c o h n) n, b.keg⟩
theorem KegAt.ne {H : Hp} {a : Addr} (k : KegAt H a) : H a ≠ none := by
  obtain ⟨g, k, h, _⟩ := k
  rw [h]; simp
theorem WOk.ext {G O : Addr → Prop} {H H' : Hp} (w : WOk G O H) (x : Ext G H H') : WOk G O H' :=
  ⟨w.sub, fun a ha => by
    by_cases g : G a
    · exact (x.keg a g).ne
    · cases e : H a with
      | none => exact absurd e (w.dom a ha)
      | some o => rw [x.same a o e g]; simp, x.keg⟩
theorem Ext.hide {G O : Addr → Prop} {H H' : Hp} (w : WOk G O H) (x : Ext G H H') : Same (hide H O) (hide H' O) := fun b o h => by
  obtain ⟨n, e⟩ := hide_some.mp h
  exact hide_some.mpr ⟨n, x.same b o e fun g => n (w.sub b g)⟩
/-- a new object -/
theorem Ext.new {G O : Addr → Prop} {H : Hp} {p : Addr} {o : HO} (w : WOk G O H) (hp : H p = none) : Ext G H (upd H p o) :=
  ⟨fun b u h _ => by rw [upd_ne (ne_of_none h hp)]; exact h, fun a ha => by
    obtain ⟨g, k, h, r⟩ := w.keg a ha
    exact ⟨g, k, by rw [upd_ne (ne_of_none h hp)]; exact h, r⟩⟩
theorem WOk.fresh {G O : Addr → Prop} {H : Hp} {p : Addr} (w : WOk G O H) (hp : H p = none) : ¬ O p := fun h => w.dom p h hp
theorem hide_new {G O : Addr → Prop} {H : Hp} {p : Addr} {o : HO} (w : WOk G O H) (hp : H p = none) : hide (upd H p o) O p = some o :=
  hide_some.mpr ⟨w.fresh hp, upd_same⟩

theorem _root_.L2.SqT.same {K : PySem.W.Frag} {H H' : Hp} {a : Addr} {xs : List V} (e : Same H H') (h : SqT K H a xs) : SqT K H' a xs := by
  rcases h with (h | ⟨o, h⟩) | h
  · exact .inl (.inl (e _ _ h))
  · exact .inl (.inr ⟨o, e _ _ h⟩)
  · exact .inr h
theorem _root_.L2.SqL.show {K : PySem.W.Frag} {H : Hp} {O : Addr → Prop} {a : Addr} {xs : List V} (h : SqL K (hide H O) a xs) : SqL K H a xs := by
  rcases h with (h | ⟨o, h⟩) | h
  · exact .inl (.inl (hide_some.mp h).2)
  · exact .inl (.inr ⟨o, (hide_some.mp h).2⟩)
  · exact .inr h
theorem _root_.L2.SqT.show {K : PySem.W.Frag} {H : Hp} {O : Addr → Prop} {a : Addr} {xs : List V} (h : SqT K (hide H O) a xs) : SqT K H a xs := by
  rcases h with (h | ⟨o, h⟩) | h
  · exact .inl (.inl (hide_some.mp h).2)
  · exact .inl (.inr ⟨o, (hide_some.mp h).2⟩)
  · exact .inr h
mutual
theorem dp_same {K : PySem.W.Frag} {H H' : Hp} (e : Same H H') : ∀ {d : PyData} {v : V}, Dp K H v d → Dp K H' v d
  | .none, _, h => by cases h; exact .non
  | .bool b, _, h => by cases h; exact .bl b
  | .int i, _, h => by cases h; exact .int i
  | .str x, _, h => by cases h; exact .str x
  | .list ds, _, h => by
    cases h with
    | lst hs ha => exact .lst (L2.Same.seq e hs) (dp_sameAll e ha)
  | .tuple ds, _, h => by
    cases h with
    | tup hs ha => exact .tup (SqT.same e hs) (dp_sameAll e ha)
  | .dict _, _, h => by cases h
theorem dp_sameAll {K : PySem.W.Frag} {H H' : Hp} (e : Same H H') : ∀ {ds : List PyData} {vs : List V}, DpAll K H vs ds → DpAll K H' vs ds
  | [], _, h => by cases h; exact .nil
  | d :: ds, _, h => by
    cases h with
    | cons h1 h2 => exact .cons (dp_same e h1) (dp_sameAll e h2)
end
theorem _root_.L2.Dp.same {K : PySem.W.Frag} {H H' : Hp} (e : Same H H') {d : PyData} {v : V} (h : Dp K H v d) : Dp K H' v d := dp_same e h
theorem _root_.L2.DpAll.same {K : PySem.W.Frag} {H H' : Hp} (e : Same H H') {d : List PyData} {v : List V} (h : DpAll K H v d) : DpAll K H' v d := dp_sameAll e h
theorem same_show {H : Hp} {O : Addr → Prop} : Same (hide H O) H := fun b o h => (hide_some.mp h).2

/-! ## What a value is, in a world -/
section
variable {K : PySem.W.Frag} {fA : Nat → Addr}
def Rep (K : PySem.W.Frag) (fA : Nat → Addr) (G O : Addr → Prop) (H : Hp) (v : V) : D → Prop
  | .dat x => Dp K (hide H O) v x
  | .fn i => v = .ref (fA i)
  | .keg => ∃ a, v = .ref a ∧ G a
  | .acc xs => False
theorem Rep.ext {G O : Addr → Prop} {H H' : Hp} {v : V} : ∀ {d : D}, WOk G O H → Ext G H H' → Rep K fA G O H v d → Rep K fA G O H' v d
  | .dat x, w, e, h => Dp.same (e.hide w) h
  | .fn _, _, _, h => h
  | .keg, _, _, h => h
  | .acc _, _, _, h => h.elim
def Reps (K : PySem.W.Frag) (fA : Nat → Addr) (G O : Addr → Prop) (H : Hp) : List V → List D → Prop
  | [], [] => True
  | v :: vs, d :: ds => Rep K fA G O H v d ∧ Reps K fA G O H vs ds
  | _, _ => False
theorem Reps.ext {G O : Addr → Prop} {H H' : Hp} (w : WOk G O H) (e : Ext G H H') : ∀ {vs : List V} {ds : List D}, Reps K fA G O H vs ds → Reps K fA G O H' vs ds
  | [], [], _ => trivial
  | v :: vs, d :: ds, h => ⟨h.1.ext w e, Reps.ext w e h.2⟩
  | [], _ :: _, h => h.elim
  | _ :: _, [], h => h.elim
theorem Reps.length {G O : Addr → Prop} {H : Hp} : ∀ {vs : List V} {ds : List D}, Reps K fA G O H vs ds → vs.length = ds.length
  | [], [], _ => rfl
  | v :: vs, d :: ds, h => by simp [Reps.length h.2]
  | [], _ :: _, h => h.elim
  | _ :: _, [], h => h.elim
/-- the names' values -/
structure Fit (K : PySem.W.Frag) (fA : Nat → Addr) (G O : Addr → Prop) (ρ : Env) (σ : St) (H : Hp) : Prop where
  len : ρ.length = σ.length
  val : ∀ (i : Nat) (d : D), ρ[i]? = some (some d) → (∃ xs, d = .acc xs) ∨ ∃ v, σ[i]? = some (some v) ∧ Rep K fA G O H v d
theorem Fit.ext {G O : Addr → Prop} {ρ : Env} {σ : St} {H H' : Hp} (f : Fit K fA G O ρ σ H) (w : WOk G O H) (e : Ext G H H') : Fit K fA G O ρ σ H' := ⟨f.len, fun i d h => by
  rcases f.val i d h with a | ⟨v, h1, h2⟩
  · exact .inl a
  · exact .inr ⟨v, h1, h2.ext w e⟩⟩
end

/-! ## Readings -/
section
variable (K : PySem.W.Frag) (fA cA : Nat → Addr)
def tE (W : WX) (f : Env → M D) : TE := fun σ H Q => ∃ G O ρ, WOk G O H ∧ Fit K fA G O ρ σ H ∧
  wp (f ρ) (fun d => ∀ v H', Ext G H H' → Rep K fA G O H' v d → Q v H') (fun c => ∀ H', Ext G H H' → W (.ref (cA c)) none σ H')
def tT (W : WX) (f : Env → M Bool) : TT := fun σ H Q => ∃ G O ρ, WOk G O H ∧ Fit K fA G O ρ σ H ∧
  wp (f ρ) (fun b => ∀ H', Ext G H H' → Q b H') (fun c => ∀ H', Ext G H H' → W (.ref (cA c)) none σ H')
def tAr (W : WX) (f : Env → M (List D)) : TA := fun σ H Q => ∃ G O ρ, WOk G O H ∧ Fit K fA G O ρ σ H ∧
  wp (f ρ) (fun ds => ∀ vs H', Ext G H H' → Reps K fA G O H' vs ds → Q vs H') (fun c => ∀ H', Ext G H H' → W (.ref (cA c)) none σ H')
/-- a def's promise -/
def spM (n : Nat) (f : List D → M D) : Sp := fun vs H Q E => vs.length = n ∧ ∃ G O ds, WOk G O H ∧ Reps K fA G O H vs ds ∧
  wp (f ds) (fun d => ∀ v H', Ext G H H' → Rep K fA G O H' v d → Q v H') (fun c => ∀ H', Ext G H H' → E (.ref (cA c)) none H')
end
section
variable {K : PySem.W.Frag} {fA cA : Nat → Addr} {W : WX} {σ : St} {H : Hp} {G O : Addr → Prop} {ρ : Env}
theorem seqE {α : Type} {f : Env → M D} {k : D → M α} {Q : α → Prop} {E : Nat → Prop} {R : VK} (w : WOk G O H) (fit : Fit K fA G O ρ σ H) (hw : wp ((f ρ).bind k) Q E)
    (hE : ∀ c, E c → ∀ H', Ext G H H' → W (.ref (cA c)) none σ H') (hk : ∀ d, wp (k d) Q E → ∀ v H1, Ext G H H1 → Rep K fA G O H1 v d → R v H1) : tE K fA cA W f σ H R :=
  ⟨G, O, ρ, w, fit, wp_mono (wp_bind hw) hk hE⟩
theorem seqT {α : Type} {f : Env → M Bool} {k : Bool → M α} {Q : α → Prop} {E : Nat → Prop} {R : Bool → Hp → Prop} (w : WOk G O H) (fit : Fit K fA G O ρ σ H) (hw : wp ((f ρ).bind k) Q E)
    (hE : ∀ c, E c → ∀ H', Ext G H H' → W (.ref (cA c)) none σ H') (hk : ∀ d, wp (k d) Q E → ∀ H1, Ext G H H1 → R d H1) : tT K fA cA W f σ H R :=
  ⟨G, O, ρ, w, fit, wp_mono (wp_bind hw) hk hE⟩
theorem seqA {α : Type} {f : Env → M (List D)} {k : List D → M α} {Q : α → Prop} {E : Nat → Prop} {R : List V → Hp → Prop} (w : WOk G O H) (fit : Fit K fA G O ρ σ H) (hw : wp ((f ρ).bind k) Q E)
    (hE : ∀ c, E c → ∀ H', Ext G H H' → W (.ref (cA c)) none σ H') (hk : ∀ d, wp (k d) Q E → ∀ v H1, Ext G H H1 → Reps K fA G O H1 v d → R v H1) : tAr K fA cA W f σ H R :=
  ⟨G, O, ρ, w, fit, wp_mono (wp_bind hw) hk hE⟩
end

/-! ## Weaker readings -/
theorem _root_.L2.PE.imp {X : Cx} {e : PySem.Expr} {t t' : TE} (h : PE X e t) (i : ∀ σ H Q, t' σ H Q → t σ H Q) : PE X e t' := ⟨fun pins s σ H Q I q => h.run pins s σ H Q I (i σ H Q q)⟩
theorem _root_.L2.PT.imp {X : Cx} {e : PySem.Expr} {t t' : TT} (h : PT X e t) (i : ∀ σ H Q, t' σ H Q → t σ H Q) : PT X e t' := ⟨fun pins s σ H Q I q => h.run pins s σ H Q I (i σ H Q q)⟩
theorem _root_.L2.PA.imp {X : Cx} {e : List PySem.Expr} {t t' : TA} (h : PA X e t) (i : ∀ σ H Q, t' σ H Q → t σ H Q) : PA X e t' := ⟨fun pos pins s σ H Q I q => h.run pos pins s σ H Q I (i σ H Q q)⟩
theorem _root_.L2.PS.imp {X : Cx} {e : Stmt} {t t' : TS} (h : PS X e t) (i : ∀ D σ H, t' D σ H → t D σ H) : PS X e t' := ⟨fun pins s σ H D I q => h.run pins s σ H D I (i D σ H q)⟩
theorem _root_.L2.PSs.imp {X : Cx} {e : List Stmt} {t t' : TS} (h : PSs X e t) (i : ∀ D σ H, t' D σ H → t D σ H) : PSs X e t' := ⟨fun pins s σ H D I q => h.run pins s σ H D I (i D σ H q)⟩
end Ev
end

section
set_option Elab.async false
set_option linter.all false
set_option maxRecDepth 100000
set_option maxHeartbeats 2000000
namespace Ev
open PySem L2

/-! ## The compiled language -/
inductive BOp where | add | sub | mul | fdiv | mod | pow
inductive COp where | eq | ne | lt | le | gt | ge | isin | notin | is | isnot
inductive Blt where | len | int | tuple | list
inductive Ty where | int | bool | tuple | list | str
inductive Tg where
  | name (i : Nat)
  | nil
  | cons (a b : Tg)
mutual
inductive E where
  | var (i : Nat) | int (n : Int) | bl (b : Bool) | non | fn (i : Nat)
  | bin (op : BOp) (a b : E) | neg (a : E)
  | cmp (op : COp) (a b : E) | chain (o1 o2 : COp) (a b c : E)
  | bop (conj : Bool) (es : Es) | not (a : E) | ite (t a b : E)
  | tup (es : Es) | lst (es : Es)
  | call (f : Nat) (es : Es) | callv (i : Nat) (fs : List Nat) (es : Es)
  | blt (b : Blt) (a : E) | isi (a : E) (t : Ty)
  | idx (a b : E) | slice (a : E) (lo hi : Oe)
  | comp (own : List Nat) (tg : Tg) (it : It) (cond : Oe) (elt : E)
inductive Es where
  | nil | cons (e : E) (es : Es)
inductive Oe where
  | none | some (e : E)
inductive It where
  | seq (e : E) | range1 (a : E) | range2 (a b : E)
end
mutual
inductive S where
  | asg (tg : Tg) (e : E)
  | par2 (i j : Nat) (a b : E)
  | drum (i f : Nat) (es : Es)
  | par3 (i j k : Nat) (a b c : E)
  | expr (e : E)
  | ret (e : E)
  | ifs (t : E) (a b : Ss)
  | whil (fuel : Nat) (t : E) (b : Ss)
  | fors (tg : Tg) (it : It) (b : Ss)
  | raise
inductive Ss where
  | nil | cons (s : S) (ss : Ss)
end

/-! ## Its meaning -/
section
/-- what fits into the model's line -/
abbrev fits (n : Nat) : Bool := Nat.ble n 16777216
def intMul (i j : Int) : M D := if i.natAbs.log2 + j.natAbs.log2 < 1000000 then .ok (.dat (.int (i * j))) else .no
def intDiv (i j : Int) : M D := if 0 < j ∧ j.natAbs.log2 < 9000 then .ok (.dat (.int (i / j))) else .no
def intMod (i j : Int) : M D := if 0 < j then .ok (.dat (.int (i % j))) else .no
def intPow (i j : Int) : M D := if 0 ≤ j ∧ j ≤ 1000000 ∧ i.natAbs < 2 ^ 64 then .ok (.dat (.int (i ^ j.toNat))) else .no
def binV : BOp → PyData → PyData → M D
  | .add, .int i, .int j => .ok (.dat (.int (i + j)))
  | .add, .list xs, .list ys => if fits (xs.length + ys.length) then .ok (.dat (.list (xs ++ ys))) else .no
  | .sub, .int i, .int j => .ok (.dat (.int (i - j)))
  | .mul, .int i, .int j => intMul i j
  | .fdiv, .int i, .int j => intDiv i j
  | .mod, .int i, .int j => intMod i j
  | .pow, .int i, .int j => intPow i j
  | _, _, _ => .no
def binD (op : BOp) : D → D → M D
  | .dat x, .dat y => binV op x y
  | _, _ => .no
def eqD (x y : PyData) : M Bool := if SeqAt.shaped x && SeqAt.shaped y then .ok (PyData.eqv x y) else .no
def inD (x : PyData) (ys : List PyData) : M Bool := if SeqAt.shaped x && SeqAt.shaped (.list ys) then .ok (ys.any fun z => PyData.eqv z x) else .no
def M.map {α β : Type} (f : α → β) (m : M α) : M β := m.bind fun a => .ok (f a)
def cmpV : COp → PyData → PyData → M Bool
  | .eq, .int i, .int j => .ok (decide (i = j))
  | .ne, .int i, .int j => .ok (!decide (i = j))
  | .eq, x, y => eqD x y
  | .ne, x, y => (eqD x y).map (!·)
  | .lt, .int i, .int j => .ok (decide (i < j))
  | .le, .int i, .int j => .ok (decide (i ≤ j))
  | .gt, .int i, .int j => .ok (decide (j < i))
  | .ge, .int i, .int j => .ok (decide (j ≤ i))
  | .isin, x, .list ys => inD x ys
  | .notin, x, .list ys => (inD x ys).map (!·)
  | _, _, _ => .no
def cmpD (op : COp) : D → D → M Bool
  | .dat x, .dat y => cmpV op x y
  | _, _ => .no
def bltV : Blt → PyData → M D
  | .len, .list xs => .ok (.dat (.int xs.length))
  | .len, .tuple xs => .ok (.dat (.int xs.length))
  | .int, .int i => .ok (.dat (.int i))
  | .tuple, .list xs => .ok (.dat (.tuple xs))
  | .tuple, .tuple xs => .ok (.dat (.tuple xs))
  | .list, .list xs => .ok (.dat (.list xs))
  | .list, .tuple xs => .ok (.dat (.list xs))
  | _, _ => .no
def bltD (b : Blt) : D → M D
  | .dat x => bltV b x
  | _ => .no
def isiV : Ty → PyData → Bool
  | .int, .int _ => true
  | .int, .bool _ => true
  | .bool, .bool _ => true
  | .tuple, .tuple _ => true
  | .list, .list _ => true
  | .str, .str _ => true
  | _, _ => false
def isiD (t : Ty) : D → M Bool
  | .dat x => .ok (isiV t x)
  | _ => .no
/-- an item by its place, from either end -/
def at_ (xs : List PyData) (i : Int) : M D := match atI xs i with
  | some x => .ok (.dat x)
  | none => .no
def idxD : D → D → M D
  | .dat (.list xs), .dat (.int i) => at_ xs i
  | .dat (.tuple xs), .dat (.int i) => at_ xs i
  | _, _ => .no
def cutD (xs : List PyData) (lo hi : Option Int) : List PyData := (xs.drop (HT.sIx xs.length 0 lo)).take (HT.sIx xs.length xs.length hi - HT.sIx xs.length 0 lo)
def sliceD : D → Option Int → Option Int → M D
  | .dat (.list xs), lo, hi => .ok (.dat (.list (cutD xs lo hi)))
  | _, _, _ => .no
def dats : List D → M (List PyData)
  | [] => .ok []
  | .dat x :: ds => (dats ds).bind fun xs => .ok (x :: xs)
  | _ :: _ => .no
def mkTup (ds : List D) : M D := (dats ds).bind fun xs => if fits xs.length then .ok (.dat (.tuple xs)) else .no
def mkLst (ds : List D) : M D := (dats ds).bind fun xs => if fits xs.length then .ok (.dat (.list xs)) else .no
def asBl : D → M Bool
  | .dat (.bool b) => .ok b
  | _ => .no
def asInt : D → M Int
  | .dat (.int i) => .ok i
  | _ => .no
def mbl (m : M Bool) : M D := m.bind fun b => .ok (.dat (.bool b))
def items : PyData → Option (List PyData)
  | .tuple xs => some xs
  | .list xs => some xs
  | _ => none
def tgLen : Tg → Nat
  | .name _ => 0
  | .nil => 0
  | .cons _ b => tgLen b + 1
mutual
/-- targets: a name, or as many targets as there are items -/
def assign : Tg → PyData → Env → M Env
  | .name i, x, ρ => .ok (ρ.set i (some (.dat x)))
  | .nil, x, ρ => match items x with
    | some [] => .ok ρ
    | _ => .no
  | .cons a b, x, ρ => match items x with
    | some (y :: ys) => if ys.length = tgLen b then (assign a y ρ).bind fun ρ' => assignL b ys ρ' else .no
    | _ => .no
def assignL : Tg → List PyData → Env → M Env
  | .nil, [], ρ => .ok ρ
  | .cons a b, y :: ys, ρ => (assign a y ρ).bind fun ρ' => assignL b ys ρ'
  | _, _, _ => .no
end
def wipeE (ρ : Env) : List Nat → Env
  | [] => ρ
  | v :: vs => (wipeE ρ vs).set v none
def asDat : D → M (Option PyData)
  | .dat y => .ok (some y)
  | _ => .no
def mapGo (f : PyData → M (Option PyData)) : List PyData → M (List PyData)
  | [] => .ok []
  | x :: xs => (f x).bind fun o => (mapGo f xs).bind fun ys => .ok (match o with | some y => y :: ys | none => ys)
def rangeL (lo : Int) : Nat → List PyData
  | 0 => []
  | n + 1 => .int lo :: rangeL (lo + 1) n
def range1D : D → M (List PyData)
  | .dat (.int n) => if n ≤ 16777216 ∧ -16777216 ≤ n then .ok (rangeL 0 n.toNat) else .no
  | _ => .no
def range2D : D → D → M (List PyData)
  | .dat (.int a), .dat (.int b) => if -16777216 ≤ a ∧ a ≤ 16777216 ∧ -16777216 ≤ b ∧ b ≤ 16777216 then .ok (rangeL a (b - a).toNat) else .no
  | _, _ => .no
def seqD : D → M (List PyData)
  | .dat (.list xs) => .ok xs
  | .dat (.tuple xs) => .ok xs
  | _ => .no
def getV (ρ : Env) (i : Nat) : M D := match ρ[i]? with
  | some (some (.acc _)) => .no
  | some (some d) => .ok d
  | _ => .no
end
section
variable (F : Nat → List D → M D)
mutual
def ev : E → Env → M D
  | .var i, ρ => getV ρ i
  | .int n, _ => .ok (.dat (.int n))
  | .bl b, _ => .ok (.dat (.bool b))
  | .non, _ => .ok (.dat .none)
  | .fn i, _ => .ok (.fn i)
  | .bin op a b, ρ => (ev a ρ).bind fun x => (ev b ρ).bind fun y => binD op x y
  | .neg a, ρ => (ev a ρ).bind fun x => (asInt x).bind fun i => .ok (.dat (.int (-i)))
  | .cmp op a b, ρ => (ev a ρ).bind fun x => (ev b ρ).bind fun y => mbl (cmpD op x y)
  | .chain o1 o2 a b c, ρ => (ev a ρ).bind fun x => (ev b ρ).bind fun y => (cmpD o1 x y).bind fun r => match r with
    | true => (ev c ρ).bind fun z => mbl (cmpD o2 y z)
    | false => .ok (.dat (.bool false))
  | .bop conj es, ρ => evV conj es ρ
  | .not a, ρ => (ev a ρ).bind fun x => (asBl x).bind fun b => .ok (.dat (.bool (!b)))
  | .ite t a b, ρ => (evT t ρ).bind fun r => match r with
    | true => ev a ρ
    | false => ev b ρ
  | .tup es, ρ => (evs es ρ).bind mkTup
  | .lst es, ρ => (evs es ρ).bind mkLst
  | .call f es, ρ => (evs es ρ).bind fun ds => F f ds
  | .callv i fs es, ρ => (getV ρ i).bind fun d => match d with
    | .fn f => if fs.contains f then (evs es ρ).bind fun ds => F f ds else .no
    | _ => .no
  | .blt b a, ρ => (ev a ρ).bind fun x => bltD b x
  | .isi a t, ρ => (ev a ρ).bind fun x => mbl (isiD t x)
  | .idx a b, ρ => (ev a ρ).bind fun x => (ev b ρ).bind fun y => idxD x y
  | .slice a lo hi, ρ => (ev a ρ).bind fun x => (evO lo ρ).bind fun l => (evO hi ρ).bind fun h => sliceD x l h
  | .comp own tg it cond elt, ρ => (evI it ρ).bind fun xs => if fits xs.length then
    (mapGo (fun x => ((assign tg x (wipeE ρ own)).bind fun ρ' => (evC cond ρ').bind fun b => match b with
      | true => (ev elt ρ').bind asDat
      | false => .ok none).sure) xs).bind fun ys => .ok (.dat (.list ys)) else .no
def evT : E → Env → M Bool
  | .bop conj es, ρ => evB conj es ρ
  | .not a, ρ => (evT a ρ).bind fun b => .ok (!b)
  | .cmp op a b, ρ => (ev a ρ).bind fun x => (ev b ρ).bind fun y => cmpD op x y
  | .chain o1 o2 a b c, ρ => (ev a ρ).bind fun x => (ev b ρ).bind fun y => (cmpD o1 x y).bind fun r => match r with
    | true => (ev c ρ).bind fun z => cmpD o2 y z
    | false => .ok false
  | .call f es, ρ => ((evs es ρ).bind fun ds => F f ds).bind asBl
  | .isi a t, ρ => (ev a ρ).bind fun x => isiD t x
  | .var i, ρ => (getV ρ i).bind asBl
  | _, _ => .no
def evV : Bool → Es → Env → M D
  | _, .nil, _ => .no
  | _, .cons e .nil, ρ => ev e ρ
  | true, .cons e es, ρ => (ev e ρ).bind fun d => (asBl d).bind fun b => match b with
    | true => evV true es ρ
    | false => .ok (.dat (.bool false))
  | false, .cons e es, ρ => (ev e ρ).bind fun d => (asBl d).bind fun b => match b with
    | true => .ok (.dat (.bool true))
    | false => evV false es ρ
def evB : Bool → Es → Env → M Bool
  | _, .nil, _ => .no
  | _, .cons e .nil, ρ => evT e ρ
  | true, .cons e es, ρ => (evT e ρ).bind fun b => match b with
    | true => evB true es ρ
    | false => .ok false
  | false, .cons e es, ρ => (evT e ρ).bind fun b => match b with
    | true => .ok true
    | false => evB false es ρ
def evs : Es → Env → M (List D)
  | .nil, _ => .ok []
  | .cons e es, ρ => (ev e ρ).bind fun d => (evs es ρ).bind fun ds => .ok (d :: ds)
def evO : Oe → Env → M (Option Int)
  | .none, _ => .ok none
  | .some e, ρ => (ev e ρ).bind fun d => (asInt d).bind fun i => .ok (some i)
def evC : Oe → Env → M Bool
  | .none, _ => .ok true
  | .some e, ρ => evT e ρ
def evI : It → Env → M (List PyData)
  | .seq e, ρ => (ev e ρ).bind seqD
  | .range1 a, ρ => (ev a ρ).bind range1D
  | .range2 a b, ρ => (ev a ρ).bind fun x => (ev b ρ).bind fun y => range2D x y
end
end

inductive Flow where
  | nx (ρ : Env) | rt (d : D)
section
variable (F : Nat → List D → M D)
def forGo (f : PyData → Env → M Flow) : List PyData → Env → M Flow
  | [], ρ => .ok (.nx ρ)
  | x :: xs, ρ => (f x ρ).bind fun fl => match fl with
    | .nx ρ' => forGo f xs ρ'
    | .rt d => .ok (.rt d)
def whileGo (c : Env → M Bool) (f : Env → M Flow) : Nat → Env → M Flow
  | 0, _ => .no
  | n + 1, ρ => (c ρ).bind fun b => match b with
    | true => (f ρ).bind fun fl => match fl with
      | .nx ρ' => whileGo c f n ρ'
      | .rt d => .ok (.rt d)
    | false => .ok (.nx ρ)
def isKeg : M D → M Unit
  | .ok .keg => .ok ()
  | _ => .no
def retD : D → M Flow
  | .keg => .no
  | d => .ok (.rt d)
def assignD : Tg → D → Env → M Env
  | .name i, d, ρ => match d with
    | .acc _ => .no
    | d => .ok (ρ.set i (some d))
  | t, .dat x, ρ => assign t x ρ
  | _, _, _ => .no
mutual
def xs : S → Env → M Flow
  | .asg tg e, ρ => (ev F e ρ).bind fun d => (assignD tg d ρ).bind fun ρ' => .ok (.nx ρ')
  | .par2 i j a b, ρ => (ev F a ρ).bind fun x => (ev F b ρ).bind fun y => .ok (.nx ((ρ.set i (some x)).set j (some y)))
  | .par3 i j k a b c, ρ => (ev F a ρ).bind fun x => (ev F b ρ).bind fun y => (ev F c ρ).bind fun z => .ok (.nx (((ρ.set i (some x)).set j (some y)).set k (some z)))
  | .drum i f es, ρ => (evs F es ρ).bind fun ds => (isKeg (F f ds)).bind fun _ => .ok (.nx (ρ.set i (some .keg)))
  | .expr e, ρ => (ev F e ρ).bind fun _ => .ok (.nx ρ)
  | .ret e, ρ => (ev F e ρ).bind retD
  | .ifs t a b, ρ => (evT F t ρ).bind fun r => match r with
    | true => xss a ρ
    | false => xss b ρ
  | .whil n t b, ρ => whileGo (evT F t) (xss b) n ρ
  | .fors tg it b, ρ => (evI F it ρ).bind fun ys => forGo (fun x ρ' => (assign tg x ρ').bind fun ρ'' => xss b ρ'') ys ρ
  | .raise, _ => .no
def xss : Ss → Env → M Flow
  | .nil, ρ => .ok (.nx ρ)
  | .cons s ss, ρ => (xs s ρ).bind fun fl => match fl with
    | .nx ρ' => xss ss ρ'
    | .rt d => .ok (.rt d)
end
/-- a def: how many slots, its body -/
structure Df where
  slots : Nat
  pars : Nat
  body : Ss
def run (d : Df) (ds : List D) : M D :=
  if ds.length = d.pars then
    (xss F d.body (ds.map some ++ List.replicate (d.slots - ds.length) none)).bind fun fl => match fl with
      | .nx _ => .ok (.dat .none)
      | .rt d => .ok d
  else .no
end
end Ev
end

section
set_option Elab.async false
set_option linter.all false
set_option maxRecDepth 100000
set_option maxHeartbeats 2000000
namespace Ev
open PySem L2 PyProof.Rows

section
variable {X : Cx}
/-- list + list, wherever they stand -/
theorem op_catS : OpR X (binaryOp .Add) (fun x y H Q => ∃ l b xs zs, x = .ref l ∧ y = .ref b ∧ SqL X.K H l xs ∧ SqL X.K H b zs ∧ xs.length + zs.length ≤ sizeLine ∧ ∀ p, H p = none → Q (.ref p) (upd H p (.lst (xs ++ zs)))) := by
  intro pins s σ H x y v u Q I rx ry h
  obtain ⟨l, b, xs, zs, rfl, rfl, hH, hB, hz, q⟩ := h
  cases rx
  cases ry
  obtain ⟨its, r, ⟨⟨cls, dd, data, sl⟩, n, ho, hc, hd0, hd⟩, z⟩ := I.list hH
  obtain ⟨its2, r2, ⟨⟨cls2, dd2, data2, sl2⟩, n2, ho2, hc2, hd02, hd2⟩, z2⟩ := I.list hB
  simp only at hc hd hc2 hd2
  subst hc hd hc2 hd2
  have e : its.toArray ++ its2.toArray = (its ++ its2).toArray := by simp
  have l1 := r.length
  have l2 := r2.length
  refine concat_meets ⟨_, ho, rfl⟩ ⟨_, ho2, rfl⟩ noFill_list_add seq_list_add PySem.F.slot_list_add PySem.F.entry_list_add (PySem.F.args_list_add_2 _ _) (list_addW l b its.toArray its2.toArray n n2 dd dd2 sl sl2 (by simp only [List.size_toArray]; omega)) ⟨ho, ho2, ?_⟩
  rw [e]
  exact ⟨.ref _, _, I.lnew (t' := s.toks) (r.append r2) (by rw [List.length_append]; omega), rfl, q _ I.fresh⟩

/-- what is walked: a list or a tuple -/
def iSeq (K : PySem.W.Frag) (tl : TE) : TI := fun σ H R => tl σ H fun x H1 => ∃ a, x = .ref a ∧ (((∃ xs, SqL K H1 a xs) ∧ R (Itl K a) H1) ∨ ((∃ xs, SqT K H1 a xs) ∧ R (Itt K a) H1))
theorem pi_seq {tg l : PySem.Expr} {tl : TE} (hl : PE X l tl) : PI X tg l (iSeq X.K tl) := by
  refine ⟨fun pins s σ H R I h => ?_⟩
  refine thn (hl.run pins s σ H _ I h) fun v s1 ⟨x, H1, I1, r1, q1⟩ => ?_
  obtain ⟨a, e, ⟨⟨xs, hq⟩, q⟩ | ⟨⟨xs, hq⟩, q⟩⟩ := q1
  · subst e
    cases r1
    obtain ⟨its, rv, p, hz⟩ := I1.list hq
    refine wpAny_pyIter_list p.isList ?_
    refine ⟨s1.heap.objs.size, [s1.heap.objs.size], _, _, H1, rfl, I1.kept (t' := s1.toks) fun b o e => Heap.get?_push_of_some _ e, turn_list a _, ⟨_, Heap.get?_push_size _ rfl, rfl, rfl⟩, fun b hb => ?_, q⟩
    have e : b = s1.heap.objs.size := by simpa using hb
    subst e
    exact I1.fpOk (Nat.le_refl _) (I1.hok.fresh (Nat.le_refl _))
  · subst e
    cases r1
    obtain ⟨its, rv, p, hz⟩ := I1.tuple hq
    refine wpAny_pyIter_tuple (show s1.heap.IsTuple a its.toArray from p) ?_
    refine ⟨s1.heap.objs.size, [s1.heap.objs.size], _, _, H1, rfl, I1.kept (t' := s1.toks) fun b o e => Heap.get?_push_of_some _ e, turn_tuple a _, ⟨_, Heap.get?_push_size _ rfl, rfl, rfl⟩, fun b hb => ?_, q⟩
    have e : b = s1.heap.objs.size := by simpa using hb
    subst e
    exact I1.fpOk (Nat.le_refl _) (I1.hok.fresh (Nat.le_refl _))
end

/-! ## Operators by data -/
section
variable (K : PySem.W.Frag) (fA : Nat → Addr)
/-- an operator whose meaning is g -/
def rD (g : D → D → M D) : R2 := fun x y H Q => ∃ G O d e E', WOk G O H ∧ Rep K fA G O H x d ∧ Rep K fA G O H y e ∧ wp (g d e) (fun r => ∀ v H', Ext G H H' → Rep K fA G O H' v r → Q v H') E'
def rDB (g : D → D → M Bool) : R2 := fun x y H Q => ∃ G O d e E', WOk G O H ∧ Rep K fA G O H x d ∧ Rep K fA G O H y e ∧ wp (g d e) (fun r => Q (.bl r) H) E'
end
theorem fits_le {n : Nat} (h : fits n = true) : n ≤ sizeLine := by rw [sizeLine_eq]; exact Nat.le_of_ble_eq_true h
end Ev
namespace L2
open PySem
section
variable {K : PySem.W.Frag} {fA : Nat → Addr} {H : Hp} {G O : Addr → Prop}
theorem Dp.int_inv {v : V} {i : Int} (h : Dp K H v (.int i)) : v = .int i := by cases h; rfl
theorem Dp.bool_inv {v : V} {b : Bool} (h : Dp K H v (.bool b)) : v = .bl b := by cases h; rfl
theorem Dp.none_inv {v : V} (h : Dp K H v .none) : v = .non := by cases h; rfl
theorem Dp.list_inv {v : V} {ds : List PyData} (h : Dp K H v (.list ds)) : ∃ a xs, v = .ref a ∧ SqL K H a xs ∧ DpAll K H xs ds := by cases h with | lst a b => exact ⟨_, _, rfl, a, b⟩
theorem Dp.tup_inv {v : V} {ds : List PyData} (h : Dp K H v (.tuple ds)) : ∃ a xs, v = .ref a ∧ SqT K H a xs ∧ DpAll K H xs ds := by cases h with | tup a b => exact ⟨_, _, rfl, a, b⟩
theorem DpAll.length : ∀ {ds : List PyData} {vs : List V}, DpAll K H vs ds → vs.length = ds.length
  | [], _, h => by cases h; rfl
  | d :: ds, _, h => by cases h with | cons a b => simp [DpAll.length b]
theorem DpAll.append {ds es : List PyData} {vs us : List V} (h : DpAll K H vs ds) (h' : DpAll K H us es) : DpAll K H (vs ++ us) (ds ++ es) := by
  induction ds generalizing vs with
  | nil => cases h; exact h'
  | cons d ds ih => cases h with | cons a b => exact .cons a (ih b)
theorem DpAll.get : ∀ {ds : List PyData} {vs : List V} {i : Nat} {v : V}, DpAll K H vs ds → vs[i]? = some v → ∃ d, ds[i]? = some d ∧ Dp K H v d
  | [], _, i, v, h, e => by cases h; simp at e
  | d :: ds, _, 0, v, h, e => by cases h with | cons a b => simp at e; subst e; exact ⟨d, rfl, a⟩
  | d :: ds, _, i + 1, v, h, e => by
    cases h with
    | cons a b =>
      obtain ⟨d', h1, h2⟩ := DpAll.get (i := i) b (by simpa using e)
      exact ⟨d', by simpa using h1, h2⟩
theorem DpAll.get' : ∀ {ds : List PyData} {vs : List V} {i : Nat} {d : PyData}, DpAll K H vs ds → ds[i]? = some d → ∃ v, vs[i]? = some v ∧ Dp K H v d
  | [], _, i, v, h, e => by simp at e
  | d :: ds, _, 0, v, h, e => by cases h with | cons a b => simp at e; subst e; exact ⟨_, rfl, a⟩
  | d :: ds, _, i + 1, v, h, e => by
    cases h with
    | cons a b =>
      obtain ⟨d', h1, h2⟩ := DpAll.get' (i := i) b (by simpa using e)
      exact ⟨d', by simpa using h1, h2⟩
theorem DpAll.drop : ∀ (n : Nat) {ds : List PyData} {vs : List V}, DpAll K H vs ds → DpAll K H (vs.drop n) (ds.drop n)
  | 0, _, _, h => h
  | n + 1, [], _, h => by cases h; exact .nil
  | n + 1, d :: ds, _, h => by cases h with | cons a b => exact DpAll.drop n b
theorem DpAll.take : ∀ (n : Nat) {ds : List PyData} {vs : List V}, DpAll K H vs ds → DpAll K H (vs.take n) (ds.take n)
  | 0, _, _, h => .nil
  | n + 1, [], _, h => by cases h; exact .nil
  | n + 1, d :: ds, _, h => by cases h with | cons a b => exact .cons a (DpAll.take n b)
end
end L2
namespace Ev
open PySem L2 PyProof.Rows
section
variable {K : PySem.W.Frag} {fA : Nat → Addr} {H : Hp} {G O : Addr → Prop}
/-- a new list, a new tuple of data -/
theorem dp_newL {p : Addr} {vs : List V} {ds : List PyData} (w : WOk G O H) (hp : H p = none) (h : DpAll K (hide H O) vs ds) : Dp K (hide (upd H p (.lst vs)) O) (.ref p) (.list ds) :=
  .lst (SqL.of (hide_new w hp)) (DpAll.same ((Ext.new w hp).hide w) h)
theorem dp_newT {p : Addr} {vs : List V} {ds : List PyData} (w : WOk G O H) (hp : H p = none) (h : DpAll K (hide H O) vs ds) : Dp K (hide (upd H p (.tup vs)) O) (.ref p) (.tuple ds) :=
  .tup (SqT.of (hide_new w hp)) (DpAll.same ((Ext.new w hp).hide w) h)
theorem _root_.L2.Dp.show {v : V} {d : PyData} (h : Dp K (hide H O) v d) : Dp K H v d := Dp.same same_show h
theorem _root_.L2.DpAll.show {v : List V} {d : List PyData} (h : DpAll K (hide H O) v d) : DpAll K H v d := DpAll.same same_show h
end

def bo : BOp → Operator
  | .add => .Add | .sub => .Sub | .mul => .Mult | .fdiv => .FloorDiv | .mod => .Mod | .pow => .Pow
theorem op_bin {X : Cx} {fA : Nat → Addr} (op : BOp) : OpR X (binaryOp (bo op)) (rD X.K fA (binD op)) := by
  intro pins s σ H x y v u Q I rx ry h
  obtain ⟨G, O, d, e, E', w, hx, hy, hw⟩ := h
  cases d with
  | fn _ => exact hw.elim
  | keg => exact hw.elim
  | acc _ => exact hw.elim
  | dat d =>
  cases e with
  | fn _ => exact hw.elim
  | keg => exact hw.elim
  | acc _ => exact hw.elim
  | dat e =>
  replace hx : Dp X.K (hide H O) x d := hx
  replace hy : Dp X.K (hide H O) y e := hy
  replace hw : wp (binV op d e) _ _ := hw
  have twoI : ∀ i j, d = .int i → e = .int j → x = .int i ∧ y = .int j := fun i j hd he => by subst hd he; exact ⟨hx.int_inv, hy.int_inv⟩
  cases op with
  | add =>
    cases d <;> cases e <;> first | exact hw.elim | skip
    · rename_i i j
      obtain ⟨rfl, rfl⟩ := twoI i j rfl rfl
      exact op_add pins s σ H _ _ v u Q I rx ry ⟨i, j, rfl, rfl, hw _ H (Ext.refl w) (Dp.int _)⟩
    · rename_i ds es
      obtain ⟨a, xs, rfl, sa, da⟩ := hx.list_inv
      obtain ⟨b, ys, rfl, sb, db⟩ := hy.list_inv
      replace hw : wp (if fits (ds.length + es.length) then M.ok (D.dat (.list (ds ++ es))) else .no) _ _ := hw
      split at hw
      · rename_i hf
        refine op_catS pins s σ H _ _ v u Q I rx ry ⟨a, b, xs, ys, rfl, rfl, SqL.show sa, SqL.show sb, ?_, fun p hp => ?_⟩
        · rw [da.length, db.length]; exact fits_le hf
        · exact hw _ _ (Ext.new w hp) (dp_newL w hp (da.append db))
      · exact hw.elim
  | sub =>
    cases d <;> cases e <;> first | exact hw.elim | skip
    rename_i i j
    obtain ⟨rfl, rfl⟩ := twoI i j rfl rfl
    exact op_sub pins s σ H _ _ v u Q I rx ry ⟨i, j, rfl, rfl, hw _ H (Ext.refl w) (Dp.int _)⟩
  | mul =>
    cases d <;> cases e <;> first | exact hw.elim | skip
    rename_i i j
    obtain ⟨rfl, rfl⟩ := twoI i j rfl rfl
    replace hw : wp (intMul i j) _ _ := hw
    unfold intMul at hw
    split at hw
    · rename_i hc
      exact op_mulW pins s σ H _ _ v u Q I rx ry ⟨i, j, rfl, rfl, hc, hw _ H (Ext.refl w) (Dp.int _)⟩
    · exact hw.elim
  | fdiv =>
    cases d <;> cases e <;> first | exact hw.elim | skip
    rename_i i j
    obtain ⟨rfl, rfl⟩ := twoI i j rfl rfl
    replace hw : wp (intDiv i j) _ _ := hw
    unfold intDiv at hw
    split at hw
    · rename_i hc
      exact op_fdivW pins s σ H _ _ v u Q I rx ry ⟨i, j, rfl, rfl, hc, hw _ H (Ext.refl w) (Dp.int _)⟩
    · exact hw.elim
  | mod =>
    cases d <;> cases e <;> first | exact hw.elim | skip
    rename_i i j
    obtain ⟨rfl, rfl⟩ := twoI i j rfl rfl
    replace hw : wp (intMod i j) _ _ := hw
    unfold intMod at hw
    split at hw
    · rename_i hc
      exact op_mod pins s σ H _ _ v u Q I rx ry ⟨i, j, rfl, rfl, hc, hw _ H (Ext.refl w) (Dp.int _)⟩
    · exact hw.elim
  | pow =>
    cases d <;> cases e <;> first | exact hw.elim | skip
    rename_i i j
    obtain ⟨rfl, rfl⟩ := twoI i j rfl rfl
    replace hw : wp (intPow i j) _ _ := hw
    unfold intPow at hw
    split at hw
    · rename_i hc
      exact op_pow pins s σ H _ _ v u Q I rx ry ⟨i, j, rfl, rfl, hc, hw _ H (Ext.refl w) (Dp.int _)⟩
    · exact hw.elim

def co : COp → CmpOp
  | .eq => .Eq | .ne => .NotEq | .lt => .Lt | .le => .LtE | .gt => .Gt | .ge => .GtE | .isin => .In | .notin => .NotIn | .is => .Is | .isnot => .IsNot
theorem map_not {m : M Bool} {Q : Bool → Prop} {E : Nat → Prop} (h : wp (m.map (!·)) Q E) : wp m (fun b => Q (!b)) E := wp_bind h
theorem eq_go {X : Cx} (hu : X.A.units + 64 < cLine) {pins : List (Addr × Obj)} {s : Shared} {σ : L2.St} {H : Hp} {x y : V} {v u : Value} {Q : VK} {O : Addr → Prop} {d e : PyData} {E' : Nat → Prop} (I : Inv X pins σ H s) (rx : RelV x v) (ry : RelV y u)
    (hx : Dp X.K (hide H O) x d) (hy : Dp X.K (hide H O) y e) (hw : wp (eqD d e) (fun r => Q (.bl r) H) E') : wpAny (model X.prog X.w) X.A (compareOp .Eq v u) (EP X pins σ Q) X.xe s := by
  unfold eqD at hw
  split at hw
  · rename_i hc
    simp only [Bool.and_eq_true] at hc
    exact op_eqD hu pins s σ H x y v u Q I rx ry ⟨d, e, hx.show, hy.show, hc.1, hc.2, hw⟩
  · exact hw.elim
theorem ne_go {X : Cx} (hu : X.A.units + 64 < cLine) {pins : List (Addr × Obj)} {s : Shared} {σ : L2.St} {H : Hp} {x y : V} {v u : Value} {Q : VK} {O : Addr → Prop} {d e : PyData} {E' : Nat → Prop} (I : Inv X pins σ H s) (rx : RelV x v) (ry : RelV y u)
    (hx : Dp X.K (hide H O) x d) (hy : Dp X.K (hide H O) y e) (hw : wp ((eqD d e).map (!·)) (fun r => Q (.bl r) H) E') : wpAny (model X.prog X.w) X.A (compareOp .NotEq v u) (EP X pins σ Q) X.xe s := by
  have hw := map_not hw
  unfold eqD at hw
  split at hw
  · rename_i hc
    simp only [Bool.and_eq_true] at hc
    exact op_neD hu pins s σ H x y v u Q I rx ry ⟨d, e, hx.show, hy.show, hc.1, hc.2, hw⟩
  · exact hw.elim
theorem op_cmpD {X : Cx} {fA : Nat → Addr} {L : Nat} (hr : Room L X.A) (op : COp) : OpR X (compareOp (co op)) (rDB X.K fA (cmpD op)) := by
  intro pins s σ H x y v u Q I rx ry h
  have hu64 : X.A.units + 64 < cLine := hr.units
  have hu65 : X.A.units + 65 < cLine := by have := hr.un; omega
  obtain ⟨G, O, d, e, E', w, hx, hy, hw⟩ := h
  cases d with
  | fn _ => exact hw.elim
  | keg => exact hw.elim
  | acc _ => exact hw.elim
  | dat d =>
  cases e with
  | fn _ => exact hw.elim
  | keg => exact hw.elim
  | acc _ => exact hw.elim
  | dat e =>
  replace hx : Dp X.K (hide H O) x d := hx
  replace hy : Dp X.K (hide H O) y e := hy
  replace hw : wp (cmpV op d e) _ _ := hw
  have twoI : ∀ i j, d = .int i → e = .int j → x = .int i ∧ y = .int j := fun i j hd he => by subst hd he; exact ⟨hx.int_inv, hy.int_inv⟩
  cases op with
  | eq =>
    cases d <;> cases e <;> exact eq_go hu64 I rx ry hx hy hw
  | ne =>
    cases d <;> cases e <;> exact ne_go hu64 I rx ry hx hy hw
  | lt =>
    cases d <;> cases e <;> first | exact hw.elim | skip
    rename_i i j
    obtain ⟨rfl, rfl⟩ := twoI i j rfl rfl
    exact op_lt pins s σ H _ _ v u Q I rx ry ⟨i, j, rfl, rfl, hw⟩
  | le =>
    cases d <;> cases e <;> first | exact hw.elim | skip
    rename_i i j
    obtain ⟨rfl, rfl⟩ := twoI i j rfl rfl
    exact op_le pins s σ H _ _ v u Q I rx ry ⟨i, j, rfl, rfl, hw⟩
  | gt =>
    cases d <;> cases e <;> first | exact hw.elim | skip
    rename_i i j
    obtain ⟨rfl, rfl⟩ := twoI i j rfl rfl
    exact op_gt pins s σ H _ _ v u Q I rx ry ⟨i, j, rfl, rfl, hw⟩
  | ge =>
    cases d <;> cases e <;> first | exact hw.elim | skip
    rename_i i j
    obtain ⟨rfl, rfl⟩ := twoI i j rfl rfl
    exact op_ge pins s σ H _ _ v u Q I rx ry ⟨i, j, rfl, rfl, hw⟩
  | isin =>
    cases e <;> first | (cases d <;> exact hw.elim) | skip
    rename_i ys
    have hw : wp (inD d ys) (fun r => Q (.bl r) H) E' := by cases d <;> exact hw
    unfold inD at hw
    split at hw
    · rename_i hc
      simp only [Bool.and_eq_true] at hc
      exact op_inD hu65 pins s σ H x y v u Q I rx ry ⟨d, ys, hx.show, hy.show, hc.1, hc.2, hw⟩
    · exact hw.elim
  | notin =>
    cases e <;> first | (cases d <;> exact hw.elim) | skip
    rename_i ys
    have hw : wp ((inD d ys).map (!·)) (fun r => Q (.bl r) H) E' := by cases d <;> exact hw
    have hw := map_not hw
    unfold inD at hw
    split at hw
    · rename_i hc
      simp only [Bool.and_eq_true] at hc
      exact op_notInD hu65 pins s σ H x y v u Q I rx ry ⟨d, ys, hx.show, hy.show, hc.1, hc.2, hw⟩
    · exact hw.elim
  | is => cases d <;> cases e <;> exact hw.elim
  | isnot => cases d <;> cases e <;> exact hw.elim
end Ev
end

section
set_option Elab.async false
set_option linter.all false
set_option maxRecDepth 100000
set_option maxHeartbeats 2000000
namespace Ev
open PySem L2

/-! ## Does a compiled expression stand for this one -/
def nostar : PySem.Expr → Bool
  | .Starred .. => false
  | _ => true
def notSet : PySem.Expr → Bool
  | .Set .. => false
  | _ => true
def allNostar : List PySem.Expr → Bool
  | [] => true
  | e :: es => nostar e && allNostar es
def visB (sc : Scope) (x : Str) : Bool := match sc.names.lookup x with
  | some .local => true
  | some .cell => true
  | some .free => true
  | _ => false
def globB (sc : Scope) (x : Str) : Bool := decide (sc.names.lookup x = some .globalImplicit) && !(x == ("__debug__" : Str))
def locB (sc sa : Scope) (x : Str) : Bool := match sc.names.lookup x with
  | some .local => true
  | some .cell => decide (sa.names.lookup x = some .cell)
  | _ => false
def plainIxB : PySem.Expr → Bool
  | .Slice .. => false
  | _ => true
def bltName : Blt → Str
  | .len => "len" | .int => "int" | .tuple => "tuple" | .list => "list"
def tyName : Ty → Str
  | .int => "int" | .bool => "bool" | .tuple => "tuple" | .list => "list" | .str => "str"
section
variable (N : List Str) (fn : Nat → Option Str)
def nameOk (i : Nat) (x : Str) : Bool := decide (N[i]? = some x) && !(x == ("__debug__" : Str)) && !(x == ("__classdict__" : Str))
mutual
def okTg (sc sa : Scope) : Tg → PySem.Expr → Bool
  | .name i, e => match e with
    | .Name x _ => nameOk N i x && locB sc sa x
    | _ => false
  | .nil, e => match e with
    | .Tuple [] _ _ => true
    | _ => false
  | .cons a b, e => match e with
    | .Tuple es _ _ => okTgs sc sa a b es
    | _ => false
def okTgs (sc sa : Scope) : Tg → Tg → List PySem.Expr → Bool
  | a, .nil, es => match es with
    | [e] => nostar e && okTg sc sa a e
    | _ => false
  | a, .cons b c, es => match es with
    | e :: es => nostar e && okTg sc sa a e && okTgs sc sa b c es
    | _ => false
  | _, .name _, _ => false
end
def slots : Tg → List Nat
  | .name i => [i]
  | .nil => []
  | .cons a b => slots a ++ slots b
def ownOf (own : List Nat) : List (Str × Nat) := own.map fun i => ((N[i]?).getD "", i)
mutual
def okE (sc : Scope) : E → PySem.Expr → Bool
  | .var i, e => match e with
    | .Name x _ => nameOk N i x && visB sc x
    | _ => false
  | .int n, e => match e with
    | .Constant (.int m) _ _ => decide (n = m)
    | _ => false
  | .bl b, e => match e with
    | .Constant (.bool c) _ _ => decide (b = c)
    | _ => false
  | .non, e => match e with
    | .Constant .none _ _ => true
    | _ => false
  | .fn i, e => match e with
    | .Name x _ => globB sc x && decide (fn i = some x)
    | _ => false
  | .bin op a b, e => match e with
    | .BinOp ea o eb _ => decide (o = bo op) && okE sc a ea && okE sc b eb
    | _ => false
  | .neg a, e => match e with
    | .UnaryOp .USub ea _ => okE sc a ea
    | _ => false
  | .cmp op a b, e => match e with
    | .Compare ea [o] [eb] _ => decide (o = co op) && notSet eb && okE sc a ea && okE sc b eb
    | _ => false
  | .chain o1 o2 a b c, e => match e with
    | .Compare ea [p1, p2] [eb, ec] _ => decide (p1 = co o1) && decide (p2 = co o2) && notSet ec && okE sc a ea && okE sc b eb && okE sc c ec
    | _ => false
  | .bop conj es, e => match e with
    | .BoolOp o ees _ => decide (o = if conj then .And else .Or) && okEs sc es ees
    | _ => false
  | .not a, e => match e with
    | .UnaryOp .Not ea _ => okE sc a ea
    | _ => false
  | .ite t a b, e => match e with
    | .IfExp et ea eb _ => okE sc t et && okE sc a ea && okE sc b eb
    | _ => false
  | .tup es, e => match e with
    | .Tuple ees _ _ => okEs sc es ees && allNostar ees
    | _ => false
  | .lst es, e => match e with
    | .List ees _ => okEs sc es ees && allNostar ees
    | _ => false
  | .call f es, e => match e with
    | .Call (.Name x _) (a :: as) [] _ => globB sc x && decide (fn f = some x) && okEs sc es (a :: as) && allNostar (a :: as)
    | .Call (.Name x _) [] [] _ => globB sc x && decide (fn f = some x) && okEs sc es []
    | _ => false
  | .callv i fs es, e => match e with
    | .Call (.Name x _) (a :: as) [] _ => (fs.all fun f => (fn f).isSome) && nameOk N i x && visB sc x && okEs sc es (a :: as) && allNostar (a :: as)
    | _ => false
  | .blt b a, e => match e with
    | .Call (.Name x _) [ea] [] _ => globB sc x && decide (x = bltName b) && okE sc a ea && nostar ea
    | _ => false
  | .isi a t, e => match e with
    | .Call (.Name x _) [ea, .Name y _] [] _ => globB sc x && decide (x = ("isinstance" : Str)) && globB sc y && decide (y = tyName t) && okE sc a ea && nostar ea
    | _ => false
  | .idx a b, e => match e with
    | .Subscript ea eb _ => plainIxB eb && okE sc a ea && okE sc b eb
    | _ => false
  | .slice a lo hi, e => match e with
    | .Subscript ea (.Slice l h none _) _ => okE sc a ea && okO sc lo l && okO sc hi h
    | _ => false
  | .comp own tg it cond elt, e => match e with
    | .ListComp eelt [⟨etg, eit, eifs, as⟩] scope _ => decide (as = 0) && notSet eit && (slots tg).all own.contains && blkC N sc scope (ownOf N own) && okTg N (relS scope sc) scope tg etg && okI sc it eit && okC (relS scope sc) cond eifs && okE (relS scope sc) elt eelt
    | _ => false
def okEs (sc : Scope) : Es → List PySem.Expr → Bool
  | .nil, es => match es with
    | [] => true
    | _ => false
  | .cons c cs, es => match es with
    | e :: es => okE sc c e && okEs sc cs es
    | _ => false
def okO (sc : Scope) : Oe → Option PySem.Expr → Bool
  | .none, o => match o with
    | none => true
    | _ => false
  | .some c, o => match o with
    | some e => okE sc c e
    | _ => false
def okC (sc : Scope) : Oe → List PySem.Expr → Bool
  | .none, o => match o with
    | [] => true
    | _ => false
  | .some c, o => match o with
    | [e] => okE sc c e
    | _ => false
def okI (sc : Scope) : It → PySem.Expr → Bool
  | .seq c, e => okE sc c e && notSet e
  | .range1 a, e => match e with
    | .Call (.Name x _) [ea] [] _ => globB sc x && decide (x = ("range" : Str)) && okE sc a ea && nostar ea
    | _ => false
  | .range2 a b, e => match e with
    | .Call (.Name x _) [ea, eb] [] _ => globB sc x && decide (x = ("range" : Str)) && okE sc a ea && okE sc b eb && nostar ea && nostar eb
    | _ => false
end
end
end Ev
end

section
set_option Elab.async false
set_option linter.all false
set_option maxRecDepth 100000
set_option maxHeartbeats 2000000
namespace Ev
open PySem L2

section
variable (N : List Str) (fn dn : Nat → Option Str) (fA cA : Nat → Addr) (F : Nat → List D → M D) (L : Nat)
structure FnFact (X : Cx) (i : Nat) (x : Str) : Prop where
  mg : X.mg x = some (.ref (fA i))
  keep : PySem.W.keepIn X.K (.ref (fA i)) = true
  ok : ∃ fd ps, (∀ ds Q E, wp (F i ds) Q E → ds.length = ps.length) ∧ Binds X.K fd ps [] ∧ FnOk X.prog X.w X.K X.mg X.base (L2.CX X.prog X.w) L (fA i) fd ps (spM X.K fA cA ps.length (F i))
/-- a def that makes what is drawn from -/
def spDrum (K : PySem.W.Frag) (n : Nat) (f : List D → M D) : Sp := fun vs H Q E => vs.length = n ∧ ∃ G O ds, WOk G O H ∧ Reps K fA G O H vs ds ∧ f ds = .ok .keg ∧ ∀ p H', H p = none → Same H H' → KegAt H' p → Q (.ref p) H'
structure DrumFact (X : Cx) (i : Nat) (x : Str) : Prop where
  mg : X.mg x = some (.ref (fA i))
  keep : PySem.W.keepIn X.K (.ref (fA i)) = true
  ok : ∃ fd ps, (∀ ds, F i ds = .ok .keg → ds.length = ps.length) ∧ Binds X.K fd ps [] ∧ FnOk X.prog X.w X.K X.mg X.base (L2.CX X.prog X.w) L (fA i) fd ps (spDrum fA X.K ps.length (F i))
def bltNames : List Str := ["len", "int", "bool", "tuple", "list", "str", "range", "isinstance"]
structure Good (X : Cx) (sc sa : Scope) (W : WX) : Prop where
  hN : X.N = N
  hsc : X.env.scope = sc
  nd : X.N.Nodup
  calm : X.calm = true
  takes : Takes X W
  pass : PassesOwn (model X.prog X.w) X.A X.env X.xe
  room : Room L X.A
  fnx : ∀ x, sa.names.lookup x = some .cell → X.fn x = true
  funs : ∀ i x, fn i = some x → FnFact fA cA F L X i x
  drums : ∀ i x, dn i = some x → DrumFact fA F L X i x
  blts : ∀ x, x ∈ bltNames → X.mg x = none
end

section
variable {X : Cx} {fA cA : Nat → Addr} {W : WX} {pos : Pos}

/-! ### expressions -/
theorem e_ok {e : PySem.Expr} {v : V} {d : D} (h : PE X e (tC v)) (hr : ∀ G O H, Rep X.K fA G O H v d) : PE X e (tE X.K fA cA W fun _ => .ok d) :=
  h.imp fun σ H Q q => by
    obtain ⟨G, O, ρ, w, fit, hw⟩ := q
    exact hw v H (Ext.refl w) (hr G O H)
theorem e_no {e : PySem.Expr} {f : Env → M D} (h : ∀ ρ, f ρ = .no) : PE X e (tE X.K fA cA W f) :=
  ⟨fun pins s σ H Q I q => by
    obtain ⟨G, O, ρ, w, fit, hw⟩ := q
    rw [h] at hw
    exact hw.elim⟩
theorem t_no {e : PySem.Expr} {f : Env → M Bool} (h : ∀ ρ, f ρ = .no) : PT X e (tT X.K fA cA W f) :=
  ⟨fun pins s σ H Q I q => by
    obtain ⟨G, O, ρ, w, fit, hw⟩ := q
    rw [h] at hw
    exact hw.elim⟩
theorem getV_wp {G O : Addr → Prop} {ρ : Env} {σ : L2.St} {H : Hp} {K : PySem.W.Frag} {i : Nat} {Q : D → Prop} {E : Nat → Prop} (fit : Fit K fA G O ρ σ H) (h : wp (getV ρ i) Q E) : ∃ d v, σ[i]? = some (some v) ∧ Rep K fA G O H v d ∧ Q d ∧ getV ρ i = .ok d := by
  unfold getV at h ⊢
  cases e : ρ[i]? with
  | none => rw [e] at h; exact h.elim
  | some o =>
    cases o with
    | none => rw [e] at h; exact h.elim
    | some d =>
      cases d with
      | acc xs => rw [e] at h; exact h.elim
      | dat x =>
        rw [e] at h
        rcases fit.val i _ e with ⟨xs, z⟩ | ⟨v, h1, h2⟩
        · cases z
        · exact ⟨_, v, h1, h2, h, rfl⟩
      | fn x =>
        rw [e] at h
        rcases fit.val i _ e with ⟨xs, z⟩ | ⟨v, h1, h2⟩
        · cases z
        · exact ⟨_, v, h1, h2, h, rfl⟩
      | keg =>
        rw [e] at h
        rcases fit.val i _ e with ⟨xs, z⟩ | ⟨v, h1, h2⟩
        · cases z
        · exact ⟨_, v, h1, h2, h, rfl⟩
theorem e_var {e : PySem.Expr} {i : Nat} (h : PE X e (tVar i)) : PE X e (tE X.K fA cA W fun ρ => getV ρ i) :=
  h.imp fun σ H Q q => by
    obtain ⟨G, O, ρ, w, fit, hw⟩ := q
    obtain ⟨d, v, h1, h2, h3, _⟩ := getV_wp fit hw
    exact ⟨v, h1, h3 v H (Ext.refl w) h2⟩
variable {ea eb ec : PySem.Expr} {f g h : Env → M D}
theorem e_bin {op : BOp} (ha : PE X ea (tE X.K fA cA W f)) (hb : PE X eb (tE X.K fA cA W g)) : PE X (.BinOp ea (bo op) eb pos) (tE X.K fA cA W fun ρ => (f ρ).bind fun x => (g ρ).bind fun y => binD op x y) :=
  (pe_op (op_bin op) ha hb).imp fun σ H Q q => by
    obtain ⟨G, O, ρ, w, fit, hw⟩ := q
    exact seqE w fit hw (fun c h => h) fun d hd v H1 x1 r1 => seqE (w.ext x1) (fit.ext w x1) hd (fun c h H' x => h H' (x1.trans x)) fun e he u H2 x2 r2 =>
      ⟨G, O, d, e, _, (w.ext x1).ext x2, r1.ext (w.ext x1) x2, r2, wp_mono he (fun r q v' H' x3 r3 => q v' H' ((x1.trans x2).trans x3) r3) (fun _ z => z)⟩
theorem asInt_wp {K : PySem.W.Frag} {G O : Addr → Prop} {H : Hp} {d : D} {v : V} {Q : Int → Prop} {E : Nat → Prop} (r : Rep K fA G O H v d) (h : wp (asInt d) Q E) : ∃ i, v = .int i ∧ Q i := by
  cases d with
  | dat x =>
    cases x <;> first | exact h.elim | skip
    rename_i i
    exact ⟨i, (show Dp K _ v (.int i) from r).int_inv, h⟩
  | fn _ => exact h.elim
  | keg => exact h.elim
  | acc _ => exact h.elim
theorem asBl_wp {K : PySem.W.Frag} {G O : Addr → Prop} {H : Hp} {d : D} {v : V} {Q : Bool → Prop} {E : Nat → Prop} (r : Rep K fA G O H v d) (h : wp (asBl d) Q E) : ∃ i, v = .bl i ∧ Q i := by
  cases d with
  | dat x =>
    cases x <;> first | exact h.elim | skip
    rename_i i
    exact ⟨i, (show Dp K _ v (.bool i) from r).bool_inv, h⟩
  | fn _ => exact h.elim
  | keg => exact h.elim
  | acc _ => exact h.elim
theorem e_neg (ha : PE X ea (tE X.K fA cA W f)) : PE X (.UnaryOp .USub ea pos) (tE X.K fA cA W fun ρ => (f ρ).bind fun x => (asInt x).bind fun i => .ok (.dat (.int (-i)))) :=
  (pe_un un_neg ha).imp fun σ H Q q => by
    obtain ⟨G, O, ρ, w, fit, hw⟩ := q
    exact seqE w fit hw (fun c h => h) fun d hd v H1 x1 r1 => by
      obtain ⟨i, rfl, q⟩ := asInt_wp r1 (wp_bind hd)
      exact ⟨i, rfl, q _ H1 x1 (Dp.int _)⟩
theorem e_cmp {L : Nat} (hr : Room L X.A) {op : COp} (hm : behindInMarks (co op) eb = false) (ha : PE X ea (tE X.K fA cA W f)) (hb : PE X eb (tE X.K fA cA W g)) :
    PE X (.Compare ea [co op] [eb] pos) (tE X.K fA cA W fun ρ => (f ρ).bind fun x => (g ρ).bind fun y => mbl (cmpD op x y)) :=
  (pe_cmpR (op_cmpD hr op) ha hb hm).imp fun σ H Q q => by
    obtain ⟨G, O, ρ, w, fit, hw⟩ := q
    exact seqE w fit hw (fun c h => h) fun d hd v H1 x1 r1 => seqE (w.ext x1) (fit.ext w x1) hd (fun c h H' x => h H' (x1.trans x)) fun e he u H2 x2 r2 =>
      ⟨G, O, d, e, _, (w.ext x1).ext x2, r1.ext (w.ext x1) x2, r2, wp_mono (wp_bind he) (fun r q => q _ H2 (x1.trans x2) (Dp.bl _)) (fun _ z => z)⟩
theorem t_cmp {L : Nat} (hr : Room L X.A) {op : COp} (hm : behindInMarks (co op) eb = false) (ha : PE X ea (tE X.K fA cA W f)) (hb : PE X eb (tE X.K fA cA W g)) :
    PT X (.Compare ea [co op] [eb] pos) (tT X.K fA cA W fun ρ => (f ρ).bind fun x => (g ρ).bind fun y => cmpD op x y) :=
  (pt_cmpR (op_cmpD hr op) ha hb hm).imp fun σ H Q q => by
    obtain ⟨G, O, ρ, w, fit, hw⟩ := q
    exact seqE w fit hw (fun c h => h) fun d hd v H1 x1 r1 => seqE (w.ext x1) (fit.ext w x1) hd (fun c h H' x => h H' (x1.trans x)) fun e he u H2 x2 r2 =>
      ⟨G, O, d, e, _, (w.ext x1).ext x2, r1.ext (w.ext x1) x2, r2, wp_mono he (fun r q => ⟨r, rfl, q H2 (x1.trans x2)⟩) (fun _ z => z)⟩
theorem ite_of {c : Bool} {A B : Prop} (h : match c with | true => A | false => B) : if c = true then A else B := by
  cases c with
  | true => exact iteT h
  | false => exact iteF h
theorem e_chain {L : Nat} (hr : Room L X.A) {o1 o2 : COp} (hm : lastMarks [co o1, co o2] [eb, ec] = false) (ha : PE X ea (tE X.K fA cA W f)) (hb : PE X eb (tE X.K fA cA W g)) (hc : PE X ec (tE X.K fA cA W h)) :
    PE X (.Compare ea [co o1, co o2] [eb, ec] pos) (tE X.K fA cA W fun ρ => (f ρ).bind fun x => (g ρ).bind fun y => (cmpD o1 x y).bind fun r => match r with
      | true => (h ρ).bind fun z => mbl (cmpD o2 y z)
      | false => .ok (.dat (.bool false))) :=
  (pe_chain (op_cmpD hr o1) (op_cmpD hr o2) ha hb hc hm).imp fun σ H Q q => by
    obtain ⟨G, O, ρ, w, fit, hw⟩ := q
    refine seqE w fit hw (fun c h => h) fun d hd v H1 x1 r1 => seqE (w.ext x1) (fit.ext w x1) hd (fun c h H' x => h H' (x1.trans x)) fun e he u H2 x2 r2 =>
      ⟨G, O, d, e, _, (w.ext x1).ext x2, r1.ext (w.ext x1) x2, r2, wp_mono (wp_bind he) (fun r q => ⟨r, rfl, ite_of ?_⟩) (fun _ z => z)⟩
    have w2 := (w.ext x1).ext x2
    cases r with
    | false => exact q _ H2 (x1.trans x2) (Dp.bl _)
    | true =>
      exact seqE w2 ((fit.ext w x1).ext (w.ext x1) x2) q (fun c h H' x => h H' ((x1.trans x2).trans x)) fun e' he' u' H3 x3 r3 =>
        ⟨G, O, e, e', _, w2.ext x3, r2.ext w2 x3, r3, wp_mono (wp_bind he') (fun r q => q _ H3 ((x1.trans x2).trans x3) (Dp.bl _)) (fun _ z => z)⟩
theorem t_chain {L : Nat} (hr : Room L X.A) {o1 o2 : COp} (hm : lastMarks [co o1, co o2] [eb, ec] = false) (ha : PE X ea (tE X.K fA cA W f)) (hb : PE X eb (tE X.K fA cA W g)) (hc : PE X ec (tE X.K fA cA W h)) :
    PT X (.Compare ea [co o1, co o2] [eb, ec] pos) (tT X.K fA cA W fun ρ => (f ρ).bind fun x => (g ρ).bind fun y => (cmpD o1 x y).bind fun r => match r with
      | true => (h ρ).bind fun z => cmpD o2 y z
      | false => .ok false) :=
  (pt_chain (op_cmpD hr o1) (op_cmpD hr o2) ha hb hc hm).imp fun σ H Q q => by
    obtain ⟨G, O, ρ, w, fit, hw⟩ := q
    refine seqE w fit hw (fun c h => h) fun d hd v H1 x1 r1 => seqE (w.ext x1) (fit.ext w x1) hd (fun c h H' x => h H' (x1.trans x)) fun e he u H2 x2 r2 =>
      ⟨G, O, d, e, _, (w.ext x1).ext x2, r1.ext (w.ext x1) x2, r2, wp_mono (wp_bind he) (fun r q => ⟨r, rfl, ite_of ?_⟩) (fun _ z => z)⟩
    have w2 := (w.ext x1).ext x2
    cases r with
    | false => exact ⟨false, rfl, q H2 (x1.trans x2)⟩
    | true =>
      exact seqE w2 ((fit.ext w x1).ext (w.ext x1) x2) q (fun c h H' x => h H' ((x1.trans x2).trans x)) fun e' he' u' H3 x3 r3 =>
        ⟨G, O, e, e', _, w2.ext x3, r2.ext w2 x3, r3, wp_mono he' (fun r q => ⟨r, rfl, q H3 ((x1.trans x2).trans x3)⟩) (fun _ z => z)⟩
theorem e_not (ha : PE X ea (tE X.K fA cA W f)) : PE X (.UnaryOp .Not ea pos) (tE X.K fA cA W fun ρ => (f ρ).bind fun x => (asBl x).bind fun b => .ok (.dat (.bool (!b)))) :=
  (pe_not ha).imp fun σ H Q q => by
    obtain ⟨G, O, ρ, w, fit, hw⟩ := q
    exact seqE w fit hw (fun c h => h) fun d hd v H1 x1 r1 => by
      obtain ⟨i, rfl, q⟩ := asBl_wp r1 (wp_bind hd)
      exact ⟨i, rfl, q _ H1 x1 (Dp.bl _)⟩
theorem t_not {t : Env → M Bool} (ha : PT X ea (tT X.K fA cA W t)) : PT X (.UnaryOp .Not ea pos) (tT X.K fA cA W fun ρ => (t ρ).bind fun b => .ok (!b)) :=
  (pt_not ha).imp fun σ H Q q => by
    obtain ⟨G, O, ρ, w, fit, hw⟩ := q
    exact seqT w fit hw (fun c h => h) fun d hd H1 x1 => hd H1 x1
theorem e_ite {t : Env → M Bool} (hc : PT X ec (tT X.K fA cA W t)) (ha : PE X ea (tE X.K fA cA W f)) (hb : PE X eb (tE X.K fA cA W g)) :
    PE X (.IfExp ec ea eb pos) (tE X.K fA cA W fun ρ => (t ρ).bind fun r => match r with | true => f ρ | false => g ρ) :=
  (pe_ifExp hc ha hb).imp fun σ H Q q => by
    obtain ⟨G, O, ρ, w, fit, hw⟩ := q
    refine seqT w fit hw (fun c h => h) fun d hd H1 x1 => ite_of ?_
    cases d with
    | true => exact ⟨G, O, ρ, w.ext x1, fit.ext w x1, wp_mono hd (fun r q v H' x r' => q v H' (x1.trans x) r') (fun c q H' x => q H' (x1.trans x))⟩
    | false => exact ⟨G, O, ρ, w.ext x1, fit.ext w x1, wp_mono hd (fun r q v H' x r' => q v H' (x1.trans x) r') (fun c q H' x => q H' (x1.trans x))⟩
/-- a value that is a truth value, as a test -/
theorem t_val (ha : PE X ea (tE X.K fA cA W f)) (he : ∀ whole, isTrue ea X.env whole = (do let v ← whole; standAt ea.pos; holding [v] (truthy v))) : PT X ea (tT X.K fA cA W fun ρ => (f ρ).bind asBl) :=
  (pt_val ha he).imp fun σ H Q q => by
    obtain ⟨G, O, ρ, w, fit, hw⟩ := q
    exact seqE w fit hw (fun c h => h) fun d hd v H1 x1 r1 => by
      obtain ⟨i, rfl, q⟩ := asBl_wp r1 hd
      exact ⟨i, rfl, q H1 x1⟩
/-! ### and, or -/
theorem w_one {t : Env → M Bool} {op : BoolOp} (ha : PT X ea (tT X.K fA cA W t)) : PW X (.BoolOp op [ea] pos) (tT X.K fA cA W t) := by
  cases op with
  | And => exact pw_and1 ha
  | Or => exact pw_or1 ha
theorem PW.imp {X : Cx} {e : PySem.Expr} {t t' : TT} (h : PW X e t) (i : ∀ σ H Q, t' σ H Q → t σ H Q) : PW X e t' := ⟨fun whole pins s σ H Q I q => h.run whole pins s σ H Q I (i σ H Q q)⟩
theorem w_and {t u : Env → M Bool} {es : List PySem.Expr} (ha : PT X ea (tT X.K fA cA W t)) (hb : PW X (.BoolOp .And (eb :: es) pos) (tT X.K fA cA W u)) :
    PW X (.BoolOp .And (ea :: eb :: es) pos) (tT X.K fA cA W fun ρ => (t ρ).bind fun b => match b with | true => u ρ | false => .ok false) :=
  PW.imp (pw_and ha hb) fun σ H Q q => by
    obtain ⟨G, O, ρ, w, fit, hw⟩ := q
    refine seqT w fit hw (fun c h => h) fun d hd H1 x1 => ite_of ?_
    cases d with
    | true => exact ⟨G, O, ρ, w.ext x1, fit.ext w x1, wp_mono hd (fun r q H' x => q H' (x1.trans x)) (fun c q H' x => q H' (x1.trans x))⟩
    | false => exact hd H1 x1
theorem w_or {t u : Env → M Bool} {es : List PySem.Expr} (ha : PT X ea (tT X.K fA cA W t)) (hb : PW X (.BoolOp .Or (eb :: es) pos) (tT X.K fA cA W u)) :
    PW X (.BoolOp .Or (ea :: eb :: es) pos) (tT X.K fA cA W fun ρ => (t ρ).bind fun b => match b with | true => .ok true | false => u ρ) :=
  PW.imp (pw_or ha hb) fun σ H Q q => by
    obtain ⟨G, O, ρ, w, fit, hw⟩ := q
    refine seqT w fit hw (fun c h => h) fun d hd H1 x1 => ite_of ?_
    cases d with
    | false => exact ⟨G, O, ρ, w.ext x1, fit.ext w x1, wp_mono hd (fun r q H' x => q H' (x1.trans x)) (fun c q H' x => q H' (x1.trans x))⟩
    | true => exact hd H1 x1
theorem v_and {u : Env → M D} {es : List PySem.Expr} (ha : PE X ea (tE X.K fA cA W f)) (hb : PE X (.BoolOp .And (eb :: es) pos) (tE X.K fA cA W u)) :
    PE X (.BoolOp .And (ea :: eb :: es) pos) (tE X.K fA cA W fun ρ => (f ρ).bind fun d => (asBl d).bind fun b => match b with | true => u ρ | false => .ok (.dat (.bool false))) :=
  (pe_and ha hb).imp fun σ H Q q => by
    obtain ⟨G, O, ρ, w, fit, hw⟩ := q
    exact seqE w fit hw (fun c h => h) fun d hd v H1 x1 r1 => by
      obtain ⟨b, rfl, q⟩ := asBl_wp r1 (wp_bind hd)
      refine ⟨b, rfl, ite_of ?_⟩
      cases b with
      | true => exact ⟨G, O, ρ, w.ext x1, fit.ext w x1, wp_mono q (fun r q v H' x r' => q v H' (x1.trans x) r') (fun c q H' x => q H' (x1.trans x))⟩
      | false => exact q _ H1 x1 (Dp.bl _)
theorem v_or {u : Env → M D} {es : List PySem.Expr} (ha : PE X ea (tE X.K fA cA W f)) (hb : PE X (.BoolOp .Or (eb :: es) pos) (tE X.K fA cA W u)) :
    PE X (.BoolOp .Or (ea :: eb :: es) pos) (tE X.K fA cA W fun ρ => (f ρ).bind fun d => (asBl d).bind fun b => match b with | true => .ok (.dat (.bool true)) | false => u ρ) :=
  (pe_or ha hb).imp fun σ H Q q => by
    obtain ⟨G, O, ρ, w, fit, hw⟩ := q
    exact seqE w fit hw (fun c h => h) fun d hd v H1 x1 r1 => by
      obtain ⟨b, rfl, q⟩ := asBl_wp r1 (wp_bind hd)
      refine ⟨b, rfl, ite_of ?_⟩
      cases b with
      | false => exact ⟨G, O, ρ, w.ext x1, fit.ext w x1, wp_mono q (fun r q v H' x r' => q v H' (x1.trans x) r') (fun c q H' x => q H' (x1.trans x))⟩
      | true => exact q _ H1 x1 (Dp.bl _)
/-! ### argument lists, displays -/
theorem star_cons {e : PySem.Expr} {es : List PySem.Expr} {env : PySem.Env} (h : nostar e = true) : starEach (e :: es) env = (false, eval e env) :: starEach es env := by
  cases e <;> first | rfl | cases h
theorem back_any {es : List PySem.Expr} {env : PySem.Env} (h : allNostar es = true) : (backTo pos (starEach es env)).any (·.1) = false := by
  induction es with
  | nil => rfl
  | cons e es ih =>
    unfold allNostar at h
    simp only [Bool.and_eq_true] at h
    rw [star_cons h.1]
    show (false || (backTo pos (starEach es env)).any (·.1)) = false
    rw [ih h.2]; rfl
theorem a_nil : PA X [] (tAr X.K fA cA W fun _ => .ok []) := PA.imp pa_nil fun σ H Q q => by
    obtain ⟨G, O, ρ, w, fit, hw⟩ := q
    exact hw [] H (Ext.refl w) trivial
theorem a_cons {es : List PySem.Expr} {fs : Env → M (List D)} (hs : nostar ea = true) (ha : PE X ea (tE X.K fA cA W f)) (hb : PA X es (tAr X.K fA cA W fs)) : PA X (ea :: es) (tAr X.K fA cA W fun ρ => (f ρ).bind fun d => (fs ρ).bind fun ds => .ok (d :: ds)) :=
  PA.imp (pa_cons ha hb (star_cons hs)) fun σ H Q q => by
    obtain ⟨G, O, ρ, w, fit, hw⟩ := q
    exact seqE w fit hw (fun c h => h) fun d hd v H1 x1 r1 => seqA (w.ext x1) (fit.ext w x1) hd (fun c h H' x => h H' (x1.trans x)) fun ds he vs H2 x2 r2 =>
      he (v :: vs) H2 (x1.trans x2) ⟨r1.ext (w.ext x1) x2, r2⟩
theorem dats_wp {K : PySem.W.Frag} {G O : Addr → Prop} {H : Hp} {Q : List PyData → Prop} {E : Nat → Prop} : ∀ {ds : List D} {vs : List V}, Reps K fA G O H vs ds → wp (dats ds) Q E → ∃ xs, DpAll K (hide H O) vs xs ∧ Q xs
  | [], [], _, h => ⟨[], .nil, h⟩
  | [], _ :: _, r, _ => r.elim
  | _ :: _, [], r, _ => r.elim
  | .dat x :: ds, v :: vs, r, h => by
    obtain ⟨xs, h1, h2⟩ := dats_wp r.2 (wp_bind h)
    exact ⟨x :: xs, .cons r.1 h1, h2⟩
  | .fn _ :: _, _ :: _, _, h => h.elim
  | .keg :: _, _ :: _, _, h => h.elim
  | .acc _ :: _, _ :: _, _, h => h.elim
theorem e_tup {es : List PySem.Expr} {fs : Env → M (List D)} {k : Nat} (ha : PA X es (tAr X.K fA cA W fs)) : PE X (.Tuple es k pos) (tE X.K fA cA W fun ρ => (fs ρ).bind mkTup) :=
  (pe_tup ha).imp fun σ H Q q => by
    obtain ⟨G, O, ρ, w, fit, hw⟩ := q
    refine seqA w fit hw (fun c h => h) fun ds he vs H1 x1 r => ?_
    obtain ⟨xs, h1, h2⟩ := dats_wp r (wp_bind he)
    split at h2
    · rename_i hf
      refine ⟨by rw [h1.length]; exact fits_le hf, fun p hp => h2 _ _ (x1.trans (Ext.new (w.ext x1) hp)) (dp_newT (w.ext x1) hp h1)⟩
    · exact h2.elim
theorem e_lst {es : List PySem.Expr} {fs : Env → M (List D)} (ha : PA X es (tAr X.K fA cA W fs)) : PE X (.List es pos) (tE X.K fA cA W fun ρ => (fs ρ).bind mkLst) :=
  (pe_lst ha).imp fun σ H Q q => by
    obtain ⟨G, O, ρ, w, fit, hw⟩ := q
    refine seqA w fit hw (fun c h => h) fun ds he vs H1 x1 r => ?_
    obtain ⟨xs, h1, h2⟩ := dats_wp r (wp_bind he)
    split at h2
    · rename_i hf
      refine ⟨by rw [h1.length]; exact fits_le hf, fun p hp => h2 _ _ (x1.trans (Ext.new (w.ext x1) hp)) (dp_newL (w.ext x1) hp h1)⟩
    · exact h2.elim
end
end Ev
end

section
set_option Elab.async false
set_option linter.all false
set_option maxRecDepth 100000
set_option maxHeartbeats 2000000
namespace Ev
open PySem L2

section
variable {X : Cx} {fA cA : Nat → Addr} {W : WX} {pos p p2 : Pos} {F : Nat → List D → M D} {L : Nat} {x : Str} {i : Nat}
variable {ea eb ec : PySem.Expr} {es : List PySem.Expr} {f g h : Env → M D} {fs : Env → M (List D)}
/-! ### calls of defs -/
theorem sp_of {G O : Addr → Prop} {σ : L2.St} {H H1 : Hp} {ds : List D} {vs : List V} {n : Nat} {Q : VK} (w : WOk G O H1) (x1 : Ext G H H1) (hl : ∀ ds Q E, wp (F i ds) Q E → ds.length = n) (r : Reps X.K fA G O H1 vs ds)
    (hw : wp (F i ds) (fun d => ∀ v H', Ext G H H' → Rep X.K fA G O H' v d → Q v H') (fun c => ∀ H', Ext G H H' → W (.ref (cA c)) none σ H')) : spM X.K fA cA n (F i) vs H1 Q (WE W σ) :=
  ⟨by rw [r.length]; exact hl ds _ _ hw, G, O, ds, w, r, wp_mono hw (fun d q v H' x r => q v H' (x1.trans x) r) (fun c q H' x => q H' (x1.trans x))⟩
theorem e_call (ff : FnFact fA cA F L X i x) (hr : Room L X.A) (tk : Takes X W) (hg : Gl X x) (hd : (x == ("__debug__" : Str)) = false) (hs : allNostar (ea :: es) = true) (ha : PA X (ea :: es) (tAr X.K fA cA W fs)) :
    PE X (.Call (.Name x p) (ea :: es) [] pos) (tE X.K fA cA W fun ρ => (fs ρ).bind fun ds => F i ds) := by
  obtain ⟨fd, ps, hl, hb, ok⟩ := ff.ok
  have hs' := hs
  unfold allNostar at hs'
  simp only [Bool.and_eq_true] at hs'
  refine (pe_callS ok hr hg ff.mg ff.keep hb (fun σ => passAt tk σ) ha hd (star_cons hs'.1) (back_any hs'.2)).imp fun σ H Q q => ?_
  obtain ⟨G, O, ρ, w, fit, hw⟩ := q
  exact seqA w fit hw (fun c h => h) fun ds he vs H1 x1 r => sp_of (w.ext x1) x1 hl r he
theorem e_call0 (ff : FnFact fA cA F L X i x) (hr : Room L X.A) (tk : Takes X W) (hg : Gl X x) (hd : (x == ("__debug__" : Str)) = false) :
    PE X (.Call (.Name x p) [] [] pos) (tE X.K fA cA W fun ρ => F i []) := by
  obtain ⟨fd, ps, hl, hb, ok⟩ := ff.ok
  refine ⟨fun pins s σ H Q I q => ?_⟩
  obtain ⟨G, O, ρ, w, fit, hw⟩ := q
  refine wpAny_Call_Name_kw (ld_glob I hg ff.mg ?_ hd)
  exact PySem.W.callWith_K0 I.kIn ff.keep (run_fnS (us := []) (E := WE W) ok hr hb (passAt tk σ) I .nil (sp_of w (Ext.refl w) hl (ds := []) (vs := []) trivial hw))
theorem e_callv {ks : List Nat} (funs : ∀ i, ks.contains i = true → ∃ x, FnFact fA cA F L X i x) (hr : Room L X.A) (tk : Takes X W) (hN : X.N[i]? = some x) (hv : Vis X.env.scope x) (hd : (x == ("__debug__" : Str)) = false) (hcd : (x == ("__classdict__" : Str)) = false)
    (hs : allNostar (ea :: es) = true) (ha : PA X (ea :: es) (tAr X.K fA cA W fs)) :
    PE X (.Call (.Name x p) (ea :: es) [] pos) (tE X.K fA cA W fun ρ => (getV ρ i).bind fun d => match d with
      | .fn f => if ks.contains f then (fs ρ).bind fun ds => F f ds else .no
      | _ => .no) := by
  refine ⟨fun pins s σ H Q I q => ?_⟩
  obtain ⟨G, O, ρ, w, fit, hw⟩ := q
  obtain ⟨d, v, h1, h2, h3, _⟩ := getV_wp fit (wp_bind hw)
  cases d with
  | dat _ => exact h3.elim
  | keg => exact h3.elim
  | acc _ => exact h3.elim
  | fn k =>
  have ev : v = .ref (fA k) := h2
  subst ev
  refine wpAny_Call_Name_kw (thn ((pe_var (pos := p) hN hv hd hcd).run pins s σ H (fun v H1 => v = .ref (fA k) ∧ H1 = H) I ⟨.ref (fA k), h1, rfl, rfl⟩) fun u s1 ⟨v, H1, I1, r1, q1⟩ => ?_)
  obtain ⟨rfl, rfl⟩ := q1
  cases r1
  have hs' := hs
  unfold allNostar at hs'
  simp only [Bool.and_eq_true] at hs'
  replace h3 : wp (if ks.contains k then (fs ρ).bind fun ds => F k ds else .no) _ _ := h3
  by_cases hk : ks.contains k = true
  · rw [if_pos hk] at h3
    obtain ⟨y, ff⟩ := funs k hk
    obtain ⟨fd, ps, hl, hb, ok⟩ := ff.ok
    refine PySem.W.callWith_K (h₀ := X.base) I.ok.mod.kin ff.keep (thn (ha.run pos pins s1 σ _ (fun vs H2 => spM X.K fA cA ps.length (F k) vs H2 Q (WE W σ)) I1 (seqA w fit h3 (fun c h => h) fun ds he vs H2 x1 r => sp_of (w.ext x1) x1 hl r he)) fun us s2 ⟨vs, H2, I2, r, q⟩ => ⟨I2.kIn, ?_⟩) (star_cons hs'.1) (back_any hs'.2)
    exact run_fnS ok hr hb (passAt tk σ) I2 r q
  · rw [if_neg hk] at h3
    exact h3.elim
/-! ### built-ins of one argument -/
def rB (K : PySem.W.Frag) (fA : Nat → Addr) (g : D → M D) : List V → Hp → VK → Prop := fun xs H Q => ∃ G O d v E', xs = [v] ∧ WOk G O H ∧ Rep K fA G O H v d ∧ wp (g d) (fun r => ∀ v H', Ext G H H' → Rep K fA G O H' v r → Q v H') E'
def bltVal : Blt → Value
  | .len => .builtin "len" | .int => .type "int" | .tuple => .type "tuple" | .list => .type "list"
theorem cr_blt (b : Blt) : CallR X (bltVal b) (rB X.K fA (bltD b)) := by
  intro pins s σ H xs us Q I r q
  obtain ⟨G, O, d, v, E', rfl, w, hv, hw⟩ := q
  cases d with
  | fn _ => exact hw.elim
  | keg => exact hw.elim
  | acc _ => exact hw.elim
  | dat d =>
  replace hv : Dp X.K (hide H O) v d := hv
  replace hw : wp (bltV b d) _ _ := hw
  cases b with
  | len =>
    cases d <;> first | exact hw.elim | skip
    · obtain ⟨a, ys, rfl, sa, da⟩ := hv.list_inv
      refine call_len_seq pins s σ H _ us Q I r ⟨a, ys, rfl, .inl (SqL.show sa), ?_⟩
      rw [da.length]
      exact hw _ H (Ext.refl w) (Dp.int _)
    · obtain ⟨a, ys, rfl, sa, da⟩ := hv.tup_inv
      refine call_len_seq pins s σ H _ us Q I r ⟨a, ys, rfl, .inr (SqT.show sa), ?_⟩
      rw [da.length]
      exact hw _ H (Ext.refl w) (Dp.int _)
  | int =>
    cases d <;> first | exact hw.elim | skip
    have e := hv.int_inv
    subst e
    exact call_int1 pins s σ H _ us Q I r (.inl ⟨_, rfl, hw _ H (Ext.refl w) (Dp.int _)⟩)
  | tuple =>
    cases d <;> first | exact hw.elim | skip
    · obtain ⟨a, ys, rfl, sa, da⟩ := hv.list_inv
      exact call_tuple_of pins s σ H _ us Q I r ⟨a, ys, rfl, .inl ⟨SqL.show sa, fun l hl => hw _ _ (Ext.new w hl) (dp_newT w hl da)⟩⟩
    · obtain ⟨a, ys, rfl, sa, da⟩ := hv.tup_inv
      exact call_tuple_of pins s σ H _ us Q I r ⟨a, ys, rfl, .inr ⟨SqT.show sa, hw _ H (Ext.refl w) (show Dp X.K (hide H O) (.ref a) (.tuple _) from .tup sa da)⟩⟩
  | list =>
    cases d <;> first | exact hw.elim | skip
    · obtain ⟨a, ys, rfl, sa, da⟩ := hv.list_inv
      exact call_list_of pins s σ H _ us Q I r ⟨a, ys, rfl, .inl (SqL.show sa), fun l hl => hw _ _ (Ext.new w hl) (dp_newL w hl da)⟩
    · obtain ⟨a, ys, rfl, sa, da⟩ := hv.tup_inv
      exact call_list_of pins s σ H _ us Q I r ⟨a, ys, rfl, .inr (SqT.show sa), fun l hl => hw _ _ (Ext.new w hl) (dp_newL w hl da)⟩
theorem blt_imp {σ : L2.St} {H : Hp} {Q : VK} {b : Blt} (q : tE X.K fA cA W (fun ρ => (f ρ).bind fun x => bltD b x) σ H Q) : tCB (rB X.K fA (bltD b)) (tCons (tE X.K fA cA W f) tNil) σ H Q := by
  obtain ⟨G, O, ρ, w, fit, hw⟩ := q
  exact seqE w fit hw (fun c h => h) fun d hd v H1 x1 r1 => ⟨G, O, d, v, _, rfl, w.ext x1, r1, wp_mono hd (fun r q v H' x r' => q v H' (x1.trans x) r') (fun _ z => z)⟩
theorem e_blt {b : Blt} (hg : Gl X (bltName b)) (hm : X.mg (bltName b) = none) (hs : nostar ea = true) (ha : PE X ea (tE X.K fA cA W f)) :
    PE X (.Call (.Name (bltName b) p) [ea] [] pos) (tE X.K fA cA W fun ρ => (f ρ).bind fun x => bltD b x) := by
  have hA : PA X [ea] (tCons (tE X.K fA cA W f) tNil) := pa_cons ha pa_nil (star_cons hs)
  have hst := star_cons (es := []) (env := X.env) hs
  cases b with
  | len => exact (pe_callB (cr_blt .len) hg hm PySem.boot_len hA (by decide) (by decide) hst rfl).imp fun σ H Q q => blt_imp q
  | int => exact (pe_callTy (cr_blt .int) hg hm PyProof.Rows.boot_int hA (by decide) (by decide) hst rfl).imp fun σ H Q q => blt_imp q
  | tuple => exact (pe_callTy (cr_blt .tuple) hg hm PyProof.Rows.boot_tuple hA (by decide) (by decide) hst rfl).imp fun σ H Q q => blt_imp q
  | list => exact (pe_callTy (cr_blt .list) hg hm PyProof.Rows.boot_list hA (by decide) (by decide) hst rfl).imp fun σ H Q q => blt_imp q
/-! ### isinstance -/
def tyS : Ty → String
  | .int => "int" | .bool => "bool" | .tuple => "tuple" | .list => "list" | .str => "str"
theorem boot_ty (t : Ty) : bootBuiltins (tyName t) = some (.type (tyS t)) := by cases t <;> decide +kernel
theorem ty_ne (t : Ty) : tyName t ≠ ("__name__" : Str) := by cases t <;> decide
theorem ty_nd (t : Ty) : (tyName t == ("__debug__" : Str)) = false := by cases t <;> decide
theorem SqL.ty {K : PySem.W.Frag} {H : Hp} {a : Addr} {xs : List V} (h : SqL K H a xs) : TyX K H (.ref a) (.type "list") := by
  rcases h with (h | ⟨o, h⟩) | ⟨o, its, n, h1, h2, _⟩
  · exact .base (.lst h)
  · exact .base (.frz h)
  · exact .kList h1 h2
theorem SqT.ty {K : PySem.W.Frag} {H : Hp} {a : Addr} {xs : List V} (h : SqT K H a xs) : TyX K H (.ref a) (.type "tuple") := by
  rcases h with (h | ⟨o, h⟩) | ⟨o, its, n, h1, h2, _⟩
  · exact .base (.tup h)
  · exact .fTuple h
  · exact .kTuple h1 h2
theorem kit_none (t : Ty) : kitB "NoneType" (tyS t) = some (isiV t .none) := by cases t <;> decide +kernel
theorem kit_bool (t : Ty) (b : Bool) : kitB "bool" (tyS t) = some (isiV t (.bool b)) := by
  have e : isiV t (.bool b) = isiV t (.bool true) := by cases t <;> rfl
  rw [e]; cases t <;> decide +kernel
theorem kit_int (t : Ty) (b : Int) : kitB "int" (tyS t) = some (isiV t (.int b)) := by
  have e : isiV t (.int b) = isiV t (.int 0) := by cases t <;> rfl
  rw [e]; cases t <;> decide +kernel
theorem kit_str (t : Ty) (b : Str) : kitB "str" (tyS t) = some (isiV t (.str b)) := by
  have e : isiV t (.str b) = isiV t (.str "") := by cases t <;> rfl
  rw [e]; cases t <;> decide +kernel
theorem kit_list (t : Ty) (b : List PyData) : kitB "list" (tyS t) = some (isiV t (.list b)) := by
  have e : isiV t (.list b) = isiV t (.list []) := by cases t <;> rfl
  rw [e]; cases t <;> decide +kernel
theorem kit_tuple (t : Ty) (b : List PyData) : kitB "tuple" (tyS t) = some (isiV t (.tuple b)) := by
  have e : isiV t (.tuple b) = isiV t (.tuple []) := by cases t <;> rfl
  rw [e]; cases t <;> decide +kernel
theorem isi_go {K : PySem.W.Frag} {H : Hp} {v : V} {d : PyData} (t : Ty) (hv : Dp K H v d) : ∃ ty, TyX K H v ty ∧ PySem.W.kitOne K ty (.type (tyS t)) = some (isiV t d) := by
  cases d with
  | none => have e := hv.none_inv; subst e; exact ⟨_, .base .non, kit_ty (kit_none t)⟩
  | bool b => have e := hv.bool_inv; subst e; exact ⟨_, .base (.bl b), kit_ty (kit_bool t b)⟩
  | int i => have e := hv.int_inv; subst e; exact ⟨_, .base (.int i), kit_ty (kit_int t i)⟩
  | str x => cases hv; exact ⟨_, .base (.str x), kit_ty (kit_str t x)⟩
  | list ds => obtain ⟨a, ys, rfl, sa, da⟩ := hv.list_inv; exact ⟨_, SqL.ty sa, kit_ty (kit_list t ds)⟩
  | tuple ds => obtain ⟨a, ys, rfl, sa, da⟩ := hv.tup_inv; exact ⟨_, SqT.ty sa, kit_ty (kit_tuple t ds)⟩
  | dict _ => cases hv
theorem e_isi0 {t : Ty} (hg : Gl X ("isinstance" : Str)) (hm : X.mg ("isinstance" : Str) = none) (hg2 : Gl X (tyName t)) (hm2 : X.mg (tyName t) = none) (hs : nostar ea = true) (ha : PE X ea (tE X.K fA cA W f)) :
    PE X (.Call (.Name ("isinstance" : Str) p) [ea, .Name (tyName t) p2] [] pos) (fun σ H Q => tE X.K fA cA W (fun ρ => (f ρ).bind fun x => mbl (isiD t x)) σ H Q) := by
  have hA : PA X [ea, .Name (tyName t) p2] (tCons (tE X.K fA cA W f) (tCons (tC (.ty (tyS t))) tNil)) :=
    pa_cons ha (pa_cons (pe_bltn hg2 hm2 (boot_ty t) rfl (ty_ne t) (ty_nd t)) pa_nil (star_cons rfl)) (star_cons hs)
  refine (pe_callB call_isi hg hm PyProof.Rows.boot_isinstance hA (by decide) (by decide) (star_cons hs) (by rw [star_cons rfl]; rfl)).imp fun σ H Q q => ?_
  obtain ⟨G, O, ρ, w, fit, hw⟩ := q
  refine seqE w fit hw (fun c h => h) fun d hd v H1 x1 r1 => ?_
  cases d with
  | fn _ => exact hd.elim
  | keg => exact hd.elim
  | acc _ => exact hd.elim
  | dat d =>
  obtain ⟨ty, h1, h2⟩ := isi_go t (show Dp X.K H1 v d from (show Dp X.K (hide H1 O) v d from r1).show)
  exact ⟨v, .ty (tyS t), ty, .type (tyS t), isiV t d, rfl, .ty _, h1, h2, hd _ H1 x1 (Dp.bl _)⟩
/-! ### items and slices -/
theorem atI_dp {K : PySem.W.Frag} {H : Hp} {vs : List V} {ds : List PyData} {i : Int} {Q : D → Prop} {E : Nat → Prop} (h : DpAll K H vs ds) (hw : wp (at_ ds i) Q E) : ∃ v d, atI vs i = some v ∧ Dp K H v d ∧ Q (.dat d) := by
  unfold at_ at hw
  unfold atI at hw ⊢
  rw [h.length]
  cases e : ixN ds.length i with
  | none => rw [e] at hw; exact hw.elim
  | some j =>
    rw [e] at hw
    replace hw : wp (match ds[j]? with | some x => M.ok (D.dat x) | none => .no) Q E := hw
    cases e2 : ds[j]? with
    | none => rw [e2] at hw; exact hw.elim
    | some d =>
      rw [e2] at hw
      obtain ⟨v, h1, h2⟩ := h.get' e2
      exact ⟨v, d, h1, h2, hw⟩
theorem e_idx (hb' : plainIxB eb = true) (ha : PE X ea (tE X.K fA cA W f)) (hb : PE X eb (tE X.K fA cA W g)) : PE X (.Subscript ea eb pos) (tE X.K fA cA W fun ρ => (f ρ).bind fun x => (g ρ).bind fun y => idxD x y) :=
  (pe_ix ix_seq ha hb (by cases eb <;> first | (intro _ _; rfl) | cases hb')).imp fun σ H Q q => by
    obtain ⟨G, O, ρ, w, fit, hw⟩ := q
    refine seqE w fit hw (fun c h => h) fun d hd v H1 x1 r1 => seqE (w.ext x1) (fit.ext w x1) hd (fun c h H' x => h H' (x1.trans x)) fun e he u H2 x2 r2 => ?_
    have r1 := r1.ext (w.ext x1) x2
    cases d with
    | fn _ => exact he.elim
    | keg => exact he.elim
    | acc _ => exact he.elim
    | dat d =>
    cases e with
    | fn _ => cases d <;> exact he.elim
    | keg => cases d <;> exact he.elim
    | acc _ => cases d <;> exact he.elim
    | dat e =>
    replace r1 : Dp X.K (hide H2 O) v d := r1
    replace r2 : Dp X.K (hide H2 O) u e := r2
    cases d <;> cases e <;> first | exact he.elim | skip
    · obtain ⟨a, ys, rfl, sa, da⟩ := r1.list_inv
      have e := r2.int_inv
      subst e
      obtain ⟨v, d, h1, h2, h3⟩ := atI_dp da he
      exact .inl ⟨a, ys, _, v, rfl, rfl, SqL.show sa, h1, h3 v H2 (x1.trans x2) h2⟩
    · obtain ⟨a, ys, rfl, sa, da⟩ := r1.tup_inv
      have e := r2.int_inv
      subst e
      obtain ⟨v, d, h1, h2, h3⟩ := atI_dp da he
      exact .inr (.inl ⟨a, ys, _, v, rfl, rfl, SqT.show sa, h1, h3 v H2 (x1.trans x2) h2⟩)
def tO (K : PySem.W.Frag) (fA cA : Nat → Addr) (W : WX) (f : Env → M (Option Int)) : TO := fun σ H Q => ∃ G O ρ, WOk G O H ∧ Fit K fA G O ρ σ H ∧
  wp (f ρ) (fun b => ∀ H', Ext G H H' → Q b H') (fun c => ∀ H', Ext G H H' → W (.ref (cA c)) none σ H')
theorem PO.imp {X : Cx} {e : Option PySem.Expr} {t t' : TO} (h : PO X e t) (i : ∀ σ H Q, t' σ H Q → t σ H Q) : PO X e t' := ⟨fun pins s σ H Q I q => h.run pins s σ H Q I (i σ H Q q)⟩
theorem o_none : PO X none (tO X.K fA cA W fun _ => .ok none) := PO.imp po_none fun σ H Q q => by
  obtain ⟨G, O, ρ, w, fit, hw⟩ := q
  exact hw H (Ext.refl w)
theorem o_some (ha : PE X ea (tE X.K fA cA W f)) : PO X (some ea) (tO X.K fA cA W fun ρ => (f ρ).bind fun d => (asInt d).bind fun i => .ok (some i)) := PO.imp (po_some ha) fun σ H Q q => by
  obtain ⟨G, O, ρ, w, fit, hw⟩ := q
  exact seqE w fit hw (fun c h => h) fun d hd v H1 x1 r1 => by
    obtain ⟨i, rfl, q⟩ := asInt_wp r1 (wp_bind hd)
    exact ⟨i, rfl, q H1 x1⟩
theorem seqO {α : Type} {K : PySem.W.Frag} {σ : L2.St} {H : Hp} {G O : Addr → Prop} {ρ : Env} {f : Env → M (Option Int)} {k : Option Int → M α} {Q : α → Prop} {E : Nat → Prop} {R : Option Int → Hp → Prop} (w : WOk G O H) (fit : Fit K fA G O ρ σ H) (hw : wp ((f ρ).bind k) Q E)
    (hE : ∀ c, E c → ∀ H', Ext G H H' → W (.ref (cA c)) none σ H') (hk : ∀ d, wp (k d) Q E → ∀ H1, Ext G H H1 → R d H1) : tO K fA cA W f σ H R :=
  ⟨G, O, ρ, w, fit, wp_mono (wp_bind hw) hk hE⟩
theorem e_slice {lo hi : Option PySem.Expr} {l u : Env → M (Option Int)} (ha : PE X ea (tE X.K fA cA W f)) (hl : PO X lo (tO X.K fA cA W l)) (hh : PO X hi (tO X.K fA cA W u)) :
    PE X (.Subscript ea (.Slice lo hi none p2) pos) (tE X.K fA cA W fun ρ => (f ρ).bind fun x => (l ρ).bind fun i => (u ρ).bind fun j => sliceD x i j) :=
  (pe_slice sl_list ha hl hh).imp fun σ H Q q => by
    obtain ⟨G, O, ρ, w, fit, hw⟩ := q
    refine seqE w fit hw (fun c h => h) fun d hd v H1 x1 r1 => seqO (w.ext x1) (fit.ext w x1) hd (fun c h H' x => h H' (x1.trans x)) fun i hi H2 x2 => ?_
    have w2 := (w.ext x1).ext x2
    refine seqO w2 ((fit.ext w x1).ext (w.ext x1) x2) hi (fun c h H' x => h H' ((x1.trans x2).trans x)) fun j hj H3 x3 => ?_
    have w3 := w2.ext x3
    have r1 := (r1.ext (w.ext x1) x2).ext w2 x3
    cases d with
    | fn _ => exact hj.elim
    | keg => exact hj.elim
    | acc _ => exact hj.elim
    | dat d =>
    cases d with
    | none => exact hj.elim
    | bool _ => exact hj.elim
    | int _ => exact hj.elim
    | str _ => exact hj.elim
    | tuple _ => exact hj.elim
    | dict _ => exact hj.elim
    | list ds =>
    obtain ⟨a, ys, rfl, sa, da⟩ := (show Dp X.K (hide H3 O) v (.list ds) from r1).list_inv
    refine ⟨a, ys, rfl, SqL.show sa, fun p hp => hj _ _ (((x1.trans x2).trans x3).trans (Ext.new w3 hp)) (dp_newL w3 hp ?_)⟩
    unfold cutV cutD
    rw [da.length]
    exact (da.drop _).take _
end
end Ev
end

section
set_option Elab.async false
set_option linter.all false
set_option maxRecDepth 100000
set_option maxHeartbeats 2000000
namespace Ev
open PySem L2

/-! ### what is walked -/
structure Wk (K : PySem.W.Frag) (J : L2.It) (HV : Hp) (ds : List PyData) : Prop where
  go : ∀ (i : Nat) (d : PyData) (H : Hp), ds[i]? = some d → Same HV H → J.go i H
  yl : ∀ (i : Nat) (d : PyData) (H : Hp) (x : V) (H' : Hp), ds[i]? = some d → Same HV H → J.yld i H x H' → (H' = H ∧ Dp K HV x d) ∨ ∃ T vs es, H T = none ∧ H' = upd H T (.tup vs) ∧ x = .ref T ∧ d = .tuple es ∧ DpAll K HV vs es
  stop : ∀ H, Same HV H → J.stop ds.length H
theorem wk_list {K : PySem.W.Frag} {HV : Hp} {a : Addr} {xs : List V} {ds : List PyData} (hs : SqL K HV a xs) (hd : DpAll K HV xs ds) : Wk K (Itl K a) HV ds where
  go := fun i d H e s => by
    obtain ⟨v, h1, _⟩ := hd.get' e
    exact ⟨xs, v, s.seq hs, h1⟩
  yl := fun i d H x H' e s y => by
    obtain ⟨rfl, y⟩ := y
    obtain ⟨v, h1, h2⟩ := hd.get' e
    have := y xs (s.seq hs)
    rw [h1] at this
    cases this
    exact .inl ⟨rfl, h2⟩
  stop := fun H s => ⟨xs, s.seq hs, by rw [hd.length]; exact Nat.le_refl _⟩
theorem wk_tup {K : PySem.W.Frag} {HV : Hp} {a : Addr} {xs : List V} {ds : List PyData} (hs : SqT K HV a xs) (hd : DpAll K HV xs ds) : Wk K (Itt K a) HV ds where
  go := fun i d H e s => by
    obtain ⟨v, h1, _⟩ := hd.get' e
    exact ⟨xs, v, SqT.same s hs, h1⟩
  yl := fun i d H x H' e s y => by
    obtain ⟨rfl, y⟩ := y
    obtain ⟨v, h1, h2⟩ := hd.get' e
    have := y xs (SqT.same s hs)
    rw [h1] at this
    cases this
    exact .inl ⟨rfl, h2⟩
  stop := fun H s => ⟨xs, SqT.same s hs, by rw [hd.length]; exact Nat.le_refl _⟩
theorem rangeL_length (lo : Int) (n : Nat) : (rangeL lo n).length = n := by
  induction n generalizing lo with
  | zero => rfl
  | succ n ih => unfold rangeL; simp [ih]
theorem rangeL_get {n : Nat} : ∀ {lo : Int} {i : Nat} {d : PyData}, (rangeL lo n)[i]? = some d → i < n ∧ d = .int (lo + i) := by
  induction n with
  | zero => intro lo i d h; simp [rangeL] at h
  | succ n ih =>
    intro lo i d h
    unfold rangeL at h
    cases i with
    | zero => simp at h; subst h; exact ⟨by omega, by simp⟩
    | succ i =>
      simp at h
      obtain ⟨h1, rfl⟩ := ih h
      exact ⟨by omega, by congr 1; push_cast; omega⟩
theorem wk_range {K : PySem.W.Frag} {HV : Hp} (lo : Int) (n : Nat) : Wk K (Itr lo n) HV (rangeL lo n) where
  go := fun i d H e s => (rangeL_get e).1
  yl := fun i d H x H' e s y => by
    obtain ⟨rfl, rfl⟩ := y
    obtain ⟨_, rfl⟩ := rangeL_get e
    exact .inl ⟨rfl, Dp.int _⟩
  stop := fun H s => by rw [rangeL_length]; exact Nat.le_refl n
def tI (K : PySem.W.Frag) (fA cA : Nat → Addr) (W : WX) (f : Env → M (List PyData)) : TI := fun σ H R => ∃ G O ρ, WOk G O H ∧ Fit K fA G O ρ σ H ∧
  wp (f ρ) (fun ds => ∀ J H', Ext G H H' → Wk K J (hide H' O) ds → R J H') (fun c => ∀ H', Ext G H H' → W (.ref (cA c)) none σ H')
theorem _root_.L2.PI.imp {X : Cx} {tg e : PySem.Expr} {t t' : TI} (h : PI X tg e t) (i : ∀ σ H Q, t' σ H Q → t σ H Q) : PI X tg e t' := ⟨fun pins s σ H Q I q => h.run pins s σ H Q I (i σ H Q q)⟩
section
variable {X : Cx} {fA cA : Nat → Addr} {W : WX} {pos p p2 : Pos}
variable {ea eb ec tg : PySem.Expr} {f g h : Env → M D}
theorem i_seq (ha : PE X ea (tE X.K fA cA W f)) : PI X tg ea (tI X.K fA cA W fun ρ => (f ρ).bind seqD) :=
  (pi_seq ha).imp fun σ H Q q => by
    obtain ⟨G, O, ρ, w, fit, hw⟩ := q
    refine seqE w fit hw (fun c h => h) fun d hd v H1 x1 r1 => ?_
    cases d with
    | fn _ => exact hd.elim
    | keg => exact hd.elim
    | acc _ => exact hd.elim
    | dat d =>
    cases d with
    | none => exact hd.elim
    | bool _ => exact hd.elim
    | int _ => exact hd.elim
    | str _ => exact hd.elim
    | dict _ => exact hd.elim
    | list ds =>
      obtain ⟨a, ys, rfl, sa, da⟩ := (show Dp X.K (hide H1 O) v (.list ds) from r1).list_inv
      exact ⟨a, rfl, .inl ⟨⟨ys, SqL.show sa⟩, hd _ H1 x1 (wk_list sa da)⟩⟩
    | tuple ds =>
      obtain ⟨a, ys, rfl, sa, da⟩ := (show Dp X.K (hide H1 O) v (.tuple ds) from r1).tup_inv
      exact ⟨a, rfl, .inr ⟨⟨ys, SqT.show sa⟩, hd _ H1 x1 (wk_tup sa da)⟩⟩
theorem i_range1 (hg : Gl X ("range" : Str)) (hm : X.mg ("range" : Str) = none) (hs : nostar ea = true) (ha : PE X ea (tE X.K fA cA W f)) : PI X tg (.Call (.Name ("range" : Str) p) [ea] [] pos) (tI X.K fA cA W fun ρ => (f ρ).bind range1D) :=
  (pi_range1 hg hm (pa_cons ha pa_nil (star_cons hs)) (star_cons hs)).imp fun σ H Q q => by
    obtain ⟨G, O, ρ, w, fit, hw⟩ := q
    refine seqE w fit hw (fun c h => h) fun d hd v H1 x1 r1 => ?_
    cases d with
    | fn _ => exact hd.elim
    | keg => exact hd.elim
    | acc _ => exact hd.elim
    | dat d =>
    cases d with
    | none => exact hd.elim
    | bool _ => exact hd.elim
    | list _ => exact hd.elim
    | tuple _ => exact hd.elim
    | str _ => exact hd.elim
    | dict _ => exact hd.elim
    | int n =>
      have e := (show Dp X.K (hide H1 O) v (.int n) from r1).int_inv
      subst e
      replace hd : wp (if n ≤ 16777216 ∧ -16777216 ≤ n then M.ok (rangeL 0 n.toNat) else .no) _ _ := hd
      split at hd
      · rename_i hn
        exact ⟨n, rfl, by omega, by omega, hd _ H1 x1 (wk_range 0 n.toNat)⟩
      · exact hd.elim
theorem i_range2 (hg : Gl X ("range" : Str)) (hm : X.mg ("range" : Str) = none) (hs : nostar ea = true) (hs2 : nostar eb = true) (ha : PE X ea (tE X.K fA cA W f)) (hb : PE X eb (tE X.K fA cA W g)) :
    PI X tg (.Call (.Name ("range" : Str) p) [ea, eb] [] pos) (tI X.K fA cA W fun ρ => (f ρ).bind fun x => (g ρ).bind fun y => range2D x y) :=
  (pi_range2 hg hm (pa_cons ha (pa_cons hb pa_nil (star_cons hs2)) (star_cons hs)) (by rw [star_cons hs, star_cons hs2]; rfl) (star_cons hs2)).imp fun σ H Q q => by
    obtain ⟨G, O, ρ, w, fit, hw⟩ := q
    refine seqE w fit hw (fun c h => h) fun d hd v H1 x1 r1 => seqE (w.ext x1) (fit.ext w x1) hd (fun c h H' x => h H' (x1.trans x)) fun e he u H2 x2 r2 => ?_
    have r1 := r1.ext (w.ext x1) x2
    cases d with
    | fn _ => exact he.elim
    | keg => exact he.elim
    | acc _ => exact he.elim
    | dat d =>
    cases e with
    | fn _ => cases d <;> exact he.elim
    | keg => cases d <;> exact he.elim
    | acc _ => cases d <;> exact he.elim
    | dat e =>
    cases d with
    | none => exact he.elim
    | bool _ => exact he.elim
    | list _ => exact he.elim
    | tuple _ => exact he.elim
    | str _ => exact he.elim
    | dict _ => exact he.elim
    | int a =>
    cases e with
    | none => exact he.elim
    | bool _ => exact he.elim
    | list _ => exact he.elim
    | tuple _ => exact he.elim
    | str _ => exact he.elim
    | dict _ => exact he.elim
    | int b =>
    have e1 := (show Dp X.K (hide H2 O) v (.int a) from r1).int_inv
    have e2 := (show Dp X.K (hide H2 O) u (.int b) from r2).int_inv
    subst e1 e2
    replace he : wp (if -16777216 ≤ a ∧ a ≤ 16777216 ∧ -16777216 ≤ b ∧ b ≤ 16777216 then M.ok (rangeL a (b - a).toNat) else .no) _ _ := he
    split at he
    · rename_i hn
      exact ⟨a, b, rfl, ⟨by omega, by omega, by omega, by omega⟩, he _ H2 (x1.trans x2) (wk_range a (b - a).toNat)⟩
    · exact he.elim
end

/-! ### targets -/
/-- what an assignment does to the names -/
structure Asd (ss : List Nat) (ρ ρ' : Env) : Prop where
  off : ∀ (i : Nat), i ∉ ss → ρ'[i]? = ρ[i]?
  on : ∀ (i : Nat) (xs : List PyData), i ∈ ss → ρ'[i]? ≠ some (some (.acc xs))
  len : ρ'.length = ρ.length
theorem Asd.trans {s t : List Nat} {a b c : Env} (h : Asd s a b) (k : Asd t b c) : Asd (s ++ t) a c :=
  ⟨fun i hi => by
    simp only [List.mem_append, not_or] at hi
    rw [k.off i hi.2, h.off i hi.1],
  fun i xs hi => by
    by_cases ht : i ∈ t
    · exact k.on i xs ht
    · rw [k.off i ht]
      exact h.on i xs (by simpa [ht] using hi), by rw [k.len, h.len]⟩
theorem Asd.set {ρ : Env} {i : Nat} {d : D} (hd : ∀ xs, d ≠ .acc xs) : Asd [i] ρ (ρ.set i (some d)) := by
  refine ⟨fun j hj => by rw [List.getElem?_set_ne (by simp at hj; omega)], fun j xs hj => ?_, by simp⟩
  simp at hj
  subst hj
  rw [List.getElem?_set]
  simp only [ite_true]
  split
  · intro e
    cases e
    exact hd xs rfl
  · intro e
    cases e
theorem asd_refl (ρ : Env) : Asd [] ρ ρ := ⟨fun i _ => rfl, fun i xs hi => (List.not_mem_nil hi).elim, rfl⟩
mutual
theorem assign_asd : ∀ (tg : Tg) (x : PyData) (ρ : Env) {Q : Env → Prop} {E : Nat → Prop}, wp (assign tg x ρ) Q E → wp (assign tg x ρ) (fun ρ' => Q ρ' ∧ Asd (slots tg) ρ ρ') E
  | .name i, x, ρ, Q, E, h => by
    rw [assign] at h ⊢
    exact ⟨h, Asd.set (fun xs e => by cases e)⟩
  | .nil, x, ρ, Q, E, h => by
    rw [assign] at h ⊢
    cases e : items x with
    | none => rw [e] at h; exact h.elim
    | some l =>
      rw [e] at h
      cases l with
      | nil => exact ⟨h, asd_refl ρ⟩
      | cons _ _ => exact h.elim
  | .cons a b, x, ρ, Q, E, h => by
    rw [assign] at h ⊢
    cases e : items x with
    | none => rw [e] at h; exact h.elim
    | some l =>
      rw [e] at h
      cases l with
      | nil => exact h.elim
      | cons y ys =>
        replace h : wp (if ys.length = tgLen b then (assign a y ρ).bind fun ρ' => assignL b ys ρ' else .no) Q E := h
        show wp (if ys.length = tgLen b then (assign a y ρ).bind fun ρ' => assignL b ys ρ' else .no) _ E
        by_cases hl : ys.length = tgLen b
        · rw [if_pos hl] at h ⊢
          refine wp_bind' (wp_mono (assign_asd a y ρ (wp_bind h)) (fun ρ1 ⟨h1, a1⟩ => ?_) (fun _ z => z))
          exact wp_mono (assignL_asd b ys ρ1 h1) (fun ρ2 ⟨h2, a2⟩ => ⟨h2, a1.trans a2⟩) (fun _ z => z)
        · rw [if_neg hl] at h
          exact h.elim
theorem assignL_asd : ∀ (tg : Tg) (x : List PyData) (ρ : Env) {Q : Env → Prop} {E : Nat → Prop}, wp (assignL tg x ρ) Q E → wp (assignL tg x ρ) (fun ρ' => Q ρ' ∧ Asd (slots tg) ρ ρ') E
  | .name i, x, ρ, Q, E, h => by
    have e : assignL (.name i) x ρ = .no := by cases x <;> simp [assignL]
    rw [e] at h
    exact h.elim
  | .nil, x, ρ, Q, E, h => by
    cases x with
    | nil => rw [assignL] at h ⊢; exact ⟨h, asd_refl ρ⟩
    | cons _ _ => rw [assignL] at h; exact h.elim; all_goals (intros; simp_all)
  | .cons a b, x, ρ, Q, E, h => by
    cases x with
    | nil => rw [assignL] at h; exact h.elim; all_goals (intros; simp_all)
    | cons y ys =>
      rw [assignL] at h ⊢
      refine wp_bind' (wp_mono (assign_asd a y ρ (wp_bind h)) (fun ρ1 ⟨h1, a1⟩ => ?_) (fun _ z => z))
      exact wp_mono (assignL_asd b ys ρ1 h1) (fun ρ2 ⟨h2, a2⟩ => ⟨h2, a1.trans a2⟩) (fun _ z => z)
end
section
variable (K : PySem.W.Frag) (fA : Nat → Addr)
/-- the slots that a target leaves -/
structure Off (ss : List Nat) (σ σ' : L2.St) : Prop where
  off : ∀ (i : Nat), i ∉ ss → σ'[i]? = σ[i]?
  len : σ'.length = σ.length
def tG (tg : Tg) : TG := fun v σ H Q => ∃ G O ρ x E', WOk G O H ∧ Fit K fA G O ρ σ H ∧ Dp K (hide H O) v x ∧ wp (assign tg x ρ) (fun ρ' => ∀ σ', Fit K fA G O ρ' σ' H → Off (slots tg) σ σ' → Q σ' H) E'
/-- several targets for the items -/
def tGs (tg : Tg) : TGs := fun vs σ H Q => ∃ G O ρ xs E', WOk G O H ∧ Fit K fA G O ρ σ H ∧ DpAll K (hide H O) vs xs ∧ wp (assignL tg xs ρ) (fun ρ' => ∀ σ', Fit K fA G O ρ' σ' H → Off (slots tg) σ σ' → Q σ' H) E'
end
theorem Off.trans {s t : List Nat} {a b c : L2.St} (h : Off s a b) (k : Off t b c) : Off (s ++ t) a c :=
  ⟨fun i hi => by
    simp only [List.mem_append, not_or] at hi
    rw [k.off i hi.2, h.off i hi.1], by rw [k.len, h.len]⟩
theorem Fit.set {K : PySem.W.Frag} {fA : Nat → Addr} {G O : Addr → Prop} {ρ : Env} {σ : L2.St} {H : Hp} {v : V} {d : D} {i : Nat} (fit : Fit K fA G O ρ σ H) (r : Rep K fA G O H v d) : Fit K fA G O (ρ.set i (some d)) (σ.set i (some v)) H :=
  ⟨by simp [fit.len], fun j e h => by
    by_cases hj : i = j
    · subst hj
      rw [List.getElem?_set] at h
      simp only [ite_true] at h
      split at h
      · rename_i hl
        cases h
        exact .inr ⟨v, by rw [List.getElem?_set]; simp [fit.len ▸ hl], r⟩
      · cases h
    · rw [List.getElem?_set_ne hj] at h
      rcases fit.val j e h with z | ⟨u, h1, h2⟩
      · exact .inl z
      · exact .inr ⟨u, by rw [List.getElem?_set_ne hj]; exact h1, h2⟩⟩
theorem Off.set {σ : L2.St} {i : Nat} {v : Option V} : Off [i] σ (σ.set i v) := ⟨fun j hj => by rw [List.getElem?_set_ne (by simp at hj; omega)], by simp⟩
theorem _root_.L2.PG.imp {X : Cx} {tg : PySem.Expr} {t t' : TG} (h : PG X tg t) (i : ∀ v σ H Q, t' v σ H Q → t v σ H Q) : PG X tg t' := ⟨fun pins s σ H v u Q I r q => h.run pins s σ H v u Q I r (i v σ H Q q)⟩
theorem _root_.L2.PGs.imp {X : Cx} {tg : List PySem.Expr} {t t' : TGs} (h : PGs X tg t) (i : ∀ v σ H Q, t' v σ H Q → t v σ H Q) : PGs X tg t' := ⟨fun pins s σ H v u Q I r q => h.run pins s σ H v u Q I r (i v σ H Q q)⟩
theorem PG.or {X : Cx} {tg : PySem.Expr} {t t' : TG} (h : PG X tg t) (h' : PG X tg t') : PG X tg (fun v σ H Q => t v σ H Q ∨ t' v σ H Q) := ⟨fun pins s σ H v u Q I r q => by
  rcases q with q | q
  · exact h.run pins s σ H v u Q I r q
  · exact h'.run pins s σ H v u Q I r q⟩
theorem items_dp {K : PySem.W.Frag} {H : Hp} {v : V} {x : PyData} {xs : List PyData} (h : Dp K H v x) (e : items x = some xs) : ∃ a vs, v = .ref a ∧ (SqT K H a vs ∨ SqL K H a vs) ∧ DpAll K H vs xs := by
  cases x <;> first | cases e | skip
  · obtain ⟨a, ys, rfl, sa, da⟩ := h.list_inv
    exact ⟨a, ys, rfl, .inr sa, da⟩
  · obtain ⟨a, ys, rfl, sa, da⟩ := h.tup_inv
    exact ⟨a, ys, rfl, .inl sa, da⟩
section
variable {X : Cx} {fA : Nat → Addr} {sc sa : Scope} {N : List Str} {pos : Pos}
theorem g_name {i : Nat} {x : Str} (h : PG X (.Name x pos) (gName i)) : PG X (.Name x pos) (tG X.K fA (.name i)) := h.imp fun v σ H Q q => by
  obtain ⟨G, O, ρ, x, E', w, fit, hv, hw⟩ := q
  rw [assign] at hw
  exact hw _ (fit.set (d := .dat x) hv) Off.set
theorem gs_nil : PGs X [] (tGs X.K fA .nil) := pgs_nil.imp fun vs σ H Q q => by
  obtain ⟨G, O, ρ, xs, E', w, fit, hv, hw⟩ := q
  cases xs with
  | nil =>
    cases hv
    rw [assignL] at hw
    exact ⟨rfl, hw _ fit ⟨fun _ _ => rfl, rfl⟩⟩
  | cons y ys =>
    rw [assignL] at hw
    · exact hw.elim
    all_goals (intros; simp_all)
theorem asg_cons {e : PySem.Expr} {es : List PySem.Expr} {env : PySem.Env} (h : nostar e = true) : assignEach (e :: es) env = (false, PySem.assign e env) :: assignEach es env := by
  cases e <;> first | rfl | cases h
theorem gs_cons {a b : Tg} {e : PySem.Expr} {es : List PySem.Expr} (hs : nostar e = true) (h1 : PG X e (tG X.K fA a)) (h2 : PGs X es (tGs X.K fA b)) : PGs X (e :: es) (tGs X.K fA (.cons a b)) :=
  (pgs_cons h1 h2 (by rw [asg_cons hs]; rfl)).imp fun vs σ H Q q => by
    obtain ⟨G, O, ρ, xs, E', w, fit, hv, hw⟩ := q
    cases xs with
    | nil =>
      rw [assignL] at hw
      · exact hw.elim
      all_goals (intros; simp_all)
    | cons y ys =>
      cases hv with
      | cons hy hys =>
      rename_i v vs'
      rw [assignL] at hw
      refine ⟨v, vs', rfl, G, O, ρ, y, E', w, fit, hy, wp_mono (wp_bind hw) (fun ρ1 h1 σ1 f1 o1 => ?_) (fun _ z => z)⟩
      exact ⟨G, O, ρ1, ys, E', w, f1, hys, wp_mono h1 (fun ρ2 h2 σ2 f2 o2 => h2 σ2 f2 (o1.trans o2)) (fun _ z => z)⟩
theorem asg_len {es : List PySem.Expr} {env : PySem.Env} : (assignEach es env).length = es.length := by
  induction es with
  | nil => rfl
  | cons e es ih => cases e <;> (unfold assignEach; simp [ih])
theorem asg_nostar {es : List PySem.Expr} {env : PySem.Env} (h : allNostar es = true) : (assignEach es env).findIdx? (·.1) = none := by
  induction es with
  | nil => rfl
  | cons e es ih =>
    unfold allNostar at h
    simp only [Bool.and_eq_true] at h
    rw [asg_cons h.1, List.findIdx?_cons, ih h.2]
    rfl
theorem assign_items {tg : Tg} {x : PyData} {ρ : Env} {Q : Env → Prop} {E : Nat → Prop} (hn : ∀ i, tg ≠ .name i) (h : wp (assign tg x ρ) Q E) : ∃ xs, items x = some xs ∧ xs.length = tgLen tg ∧ wp (assignL tg xs ρ) Q E := by
  cases tg with
  | name i => exact absurd rfl (hn i)
  | nil =>
    rw [assign] at h
    cases e : items x with
    | none => rw [e] at h; exact h.elim
    | some l =>
      rw [e] at h
      cases l with
      | nil => exact ⟨[], rfl, rfl, by rw [assignL]; exact h⟩
      | cons _ _ => exact h.elim
  | cons a b =>
    rw [assign] at h
    cases e : items x with
    | none => rw [e] at h; exact h.elim
    | some l =>
      rw [e] at h
      cases l with
      | nil => exact h.elim
      | cons y ys =>
        replace h : wp (if ys.length = tgLen b then (assign a y ρ).bind fun ρ' => assignL b ys ρ' else .no) Q E := h
        by_cases hl : ys.length = tgLen b
        · rw [if_pos hl] at h
          exact ⟨y :: ys, rfl, by simp [tgLen, hl], by rw [assignL]; exact h⟩
        · rw [if_neg hl] at h
          exact h.elim
theorem g_tup {tg : Tg} {es : List PySem.Expr} {k : Nat} (hc : X.calm = true) (hn : ∀ i, tg ≠ .name i) (hs : allNostar es = true) (hlen : tgLen tg = es.length)
    (h : PGs X es (tGs X.K fA tg)) : PG X (.Tuple es k pos) (tG X.K fA tg) :=
  (PG.or (pg_tup hc h asg_len (asg_nostar hs)) (pg_unl hc h asg_len (asg_nostar hs))).imp fun v σ H Q q => by
    obtain ⟨G, O, ρ, x, E', w, fit, hv, hw⟩ := q
    obtain ⟨xs, e, hl, hw⟩ := assign_items hn hw
    rw [hlen] at hl
    obtain ⟨a, vs, rfl, hsq, da⟩ := items_dp hv e
    rcases hsq with st | sl
    · exact .inl ⟨a, vs, rfl, SqT.show st, by rw [da.length, hl], G, O, ρ, xs, E', w, fit, da, hw⟩
    · exact .inr ⟨a, vs, rfl, SqL.show sl, by rw [da.length, hl], G, O, ρ, xs, E', w, fit, da, hw⟩
end
section
variable {N : List Str}
theorem okTgs_len {sc sa : Scope} : ∀ (b a : Tg) (es : List PySem.Expr), okTgs N sc sa a b es = true → tgLen (.cons a b) = es.length ∧ allNostar es = true
  | .nil, a, es, h => by
    unfold okTgs at h
    split at h
    · simp only [Bool.and_eq_true] at h
      exact ⟨rfl, by simp [allNostar, h.1]⟩
    · cases h
  | .cons b c, a, es, h => by
    unfold okTgs at h
    split at h
    · simp only [Bool.and_eq_true] at h
      obtain ⟨h1, h2⟩ := okTgs_len c b _ h.2
      exact ⟨by simp [tgLen] at h1 ⊢; omega, by simp [allNostar, h.1.1, h2]⟩
    · cases h
  | .name i, a, es, h => by unfold okTgs at h; cases h
variable {X : Cx} {fA : Nat → Addr} {sc sa : Scope}
theorem vis_of {x : Str} (h : visB sc x = true) : Vis sc x := by
  unfold visB at h
  split at h
  · rename_i e; exact .inl e
  · rename_i e; exact .inr (.inl e)
  · rename_i e; exact .inr (.inr e)
  · cases h
theorem name_of {i : Nat} {x : Str} (h : nameOk N i x = true) : N[i]? = some x ∧ (x == ("__debug__" : Str)) = false ∧ (x == ("__classdict__" : Str)) = false := by
  unfold nameOk at h
  simp only [Bool.and_eq_true, decide_eq_true_eq, Bool.not_eq_true'] at h
  exact ⟨h.1.1, h.1.2, h.2⟩
theorem glob_of {x : Str} (h : globB sc x = true) : sc.names.lookup x = some .globalImplicit ∧ (x == ("__debug__" : Str)) = false := by
  unfold globB at h
  simp only [Bool.and_eq_true, decide_eq_true_eq, Bool.not_eq_true'] at h
  exact h
mutual
theorem sTg (hN : X.N = N) (hsc : X.env.scope = sc) (nd : X.N.Nodup) (hc : X.calm = true) (hfn : ∀ x, sa.names.lookup x = some .cell → X.fn x = true) : ∀ (tg : Tg) (e : PySem.Expr), okTg N sc sa tg e = true → PG X e (tG X.K fA tg)
  | .name i, e, h => by
    unfold okTg at h
    split at h
    · rename_i x pos
      simp only [Bool.and_eq_true] at h
      obtain ⟨h1, _, _⟩ := name_of h.1
      refine g_name ?_
      have h2 := h.2
      unfold locB at h2
      rw [← hN] at h1
      split at h2
      · rename_i e
        rw [← hsc] at e
        exact pg_name nd h1 (.inl e) (.inr e)
      · rename_i e
        simp only [decide_eq_true_eq] at h2
        rw [← hsc] at e
        exact pg_name nd h1 (.inr e) (.inl (hfn x h2))
      · cases h2
    · cases h
  | .nil, e, h => by
    unfold okTg at h
    split at h
    · exact g_tup hc (fun i z => by cases z) rfl rfl gs_nil
    · cases h
  | .cons a b, e, h => by
    unfold okTg at h
    split at h
    · rename_i es _ _
      obtain ⟨h1, h2⟩ := okTgs_len b a es h
      exact g_tup hc (fun i z => by cases z) h2 h1 (sTgs hN hsc nd hc hfn a b es h)
    · cases h
theorem sTgs (hN : X.N = N) (hsc : X.env.scope = sc) (nd : X.N.Nodup) (hc : X.calm = true) (hfn : ∀ x, sa.names.lookup x = some .cell → X.fn x = true) : ∀ (a b : Tg) (es : List PySem.Expr), okTgs N sc sa a b es = true → PGs X es (tGs X.K fA (.cons a b))
  | a, .nil, es, h => by
    unfold okTgs at h
    split at h
    · simp only [Bool.and_eq_true] at h
      exact gs_cons h.1 (sTg hN hsc nd hc hfn a _ h.2) gs_nil
    · cases h
  | a, .cons b c, es, h => by
    unfold okTgs at h
    split at h
    · simp only [Bool.and_eq_true] at h
      exact gs_cons h.1.1 (sTg hN hsc nd hc hfn a _ h.1.2) (sTgs hN hsc nd hc hfn b c _ h.2)
    · cases h
  | a, .name i, es, h => by unfold okTgs at h; cases h
end
end
end Ev
end

section
set_option Elab.async false
set_option linter.all false
set_option maxRecDepth 100000
set_option maxHeartbeats 2000000
namespace Ev
open PySem L2

/-! ### comprehensions -/
theorem wipeE_len (ρ : Env) : ∀ vs : List Nat, (wipeE ρ vs).length = ρ.length
  | [] => rfl
  | v :: vs => by unfold wipeE; rw [List.length_set, wipeE_len ρ vs]
theorem wipeE_some {ρ : Env} {i : Nat} {d : D} : ∀ {vs : List Nat}, (wipeE ρ vs)[i]? = some (some d) → ρ[i]? = some (some d) ∧ i ∉ vs
  | [], h => ⟨h, by simp⟩
  | v :: vs, h => by
    unfold wipeE at h
    by_cases hi : v = i
    · subst hi
      rw [List.getElem?_set] at h
      simp only [ite_true] at h
      split at h <;> cases h
    · rw [List.getElem?_set_ne hi] at h
      obtain ⟨h1, h2⟩ := wipeE_some h
      exact ⟨h1, by simp only [List.mem_cons, not_or]; exact ⟨fun e => hi e.symm, h2⟩⟩
theorem wipe_at {σ : L2.St} {i : Nat} : ∀ {vs : List Nat}, i ∈ vs → i < σ.length → (wipe σ vs)[i]? = some none
  | [], h, _ => (List.not_mem_nil h).elim
  | v :: vs, h, hl => by
    unfold wipe
    by_cases hi : v = i
    · subst hi
      rw [List.getElem?_set]
      simp [wipe_length, hl]
    · rw [List.getElem?_set_ne hi]
      exact wipe_at (by simpa [Ne.symm hi] using h) hl
theorem wipe_off {σ : L2.St} {i : Nat} : ∀ {vs : List Nat}, i ∉ vs → (wipe σ vs)[i]? = σ[i]?
  | [], _ => rfl
  | v :: vs, h => by
    simp only [List.mem_cons, not_or] at h
    unfold wipe
    rw [List.getElem?_set_ne (fun e => h.1 e.symm)]
    exact wipe_off h.2
theorem wipe_eq {σ σ' : L2.St} {vs ss : List Nat} (h : Off ss (wipe σ vs) σ') (hs : ∀ i, i ∈ ss → i ∈ vs) : wipe σ' vs = wipe σ vs := by
  apply List.ext_getElem?
  intro i
  by_cases hi : i ∈ vs
  · by_cases hl : i < σ.length
    · rw [wipe_at hi hl, wipe_at hi (by rw [h.len, wipe_length]; exact hl)]
    · rw [List.getElem?_eq_none (by rw [wipe_length, h.len, wipe_length]; omega), List.getElem?_eq_none (by rw [wipe_length]; omega)]
  · rw [wipe_off hi, h.off i (fun z => hi (hs i z))]
theorem Fit.wipe {K : PySem.W.Frag} {fA : Nat → Addr} {G O : Addr → Prop} {ρ : Env} {σ : L2.St} {H : Hp} (fit : Fit K fA G O ρ σ H) (vs : List Nat) : Fit K fA G O (wipeE ρ vs) (L2.wipe σ vs) H :=
  ⟨by rw [wipeE_len, wipe_length, fit.len], fun i d h => by
    obtain ⟨h1, h2⟩ := wipeE_some h
    rcases fit.val i d h1 with z | ⟨v, q1, q2⟩
    · exact .inl z
    · exact .inr ⟨v, by rw [wipe_off h2]; exact q1, q2⟩⟩
theorem Fit.view {K : PySem.W.Frag} {fA : Nat → Addr} {G O O' : Addr → Prop} {ρ : Env} {σ : L2.St} {H H' : Hp} (fit : Fit K fA G O ρ σ H) (s : Same (hide H O) (hide H' O')) : Fit K fA G O' ρ σ H' :=
  ⟨fit.len, fun i d h => by
    rcases fit.val i d h with z | ⟨v, q1, q2⟩
    · exact .inl z
    · refine .inr ⟨v, q1, ?_⟩
      cases d with
      | dat x => exact Dp.same s q2
      | fn _ => exact q2
      | keg => exact q2
      | acc _ => exact q2.elim⟩
section
variable {X : Cx} {fA cA : Nat → Addr} {W : WX} {pos : Pos}
theorem _root_.L2.PTs.imp {X : Cx} {e : List PySem.Expr} {t t' : TT} (h : PTs X e t) (i : ∀ σ H Q, t' σ H Q → t σ H Q) : PTs X e t' := ⟨fun pins s σ H Q I q => h.run pins s σ H Q I (i σ H Q q)⟩
abbrev W0 : WX := fun _ _ _ _ => False
theorem c_none : PTs X [] (tT X.K fA cA W fun _ => .ok true) := pts_nil.imp fun σ H Q q => by
  obtain ⟨G, O, ρ, w, fit, hw⟩ := q
  exact hw H (Ext.refl w)
theorem asDat_wp {Q : Option PyData → Prop} {E : Nat → Prop} {d : D} (h : wp (asDat d) Q E) : ∃ y, d = .dat y ∧ Q (some y) := by
  cases d with
  | dat y => exact ⟨y, rfl, h⟩
  | fn _ => exact h.elim
  | keg => exact h.elim
  | acc _ => exact h.elim
/-- what a comprehension means -/
def compM (tg : Tg) (on : List Nat) (fi : Env → M (List PyData)) (fc : Env → M Bool) (fe : Env → M D) : Env → M D := fun ρ => (fi ρ).bind fun xs => if fits xs.length then
      (mapGo (fun x => ((assign tg x (wipeE ρ on)).bind fun ρ' => (fc ρ').bind fun b => match b with
        | true => (fe ρ').bind asDat
        | false => .ok none).sure) xs).bind fun ys => .ok (.dat (.list ys)) else .no
theorem comp_imp {K : PySem.W.Frag} {on : List Nat} {tg : Tg} {fi : Env → M (List PyData)} {fc : Env → M Bool} {fe : Env → M D} {σ : L2.St} {H : Hp} {Q : VK} (hss : ∀ i, i ∈ slots tg → i ∈ on) (q : tE K fA cA W (compM tg on fi fc fe) σ H Q) :
    tLc (tI K fA cA W fi) (tG K fA tg) (tT K fA cA W0 fc) (tE K fA cA W0 fe) on σ H Q := by
  obtain ⟨G, O, ρ, w, fit, hw⟩ := q
  refine ⟨G, O, ρ, w, fit, wp_mono (wp_bind hw) (fun xs hx J H1 x1 wk D hD => ?_) (fun c q => q)⟩
  generalize hQ0 : (fun d => ∀ v H', Ext G H H' → Rep K fA G O H' v d → Q v H') = Q0 at hx
  generalize hE0 : (fun c => ∀ H', Ext G H H' → W (.ref (cA c)) none σ H') = E0 at hx
  have hf : fits xs.length = true := by
    by_cases hf : fits xs.length = true
    · exact hf
    · rw [if_neg hf] at hx
      exact hx.elim
  rw [if_pos hf] at hx
  generalize hfx : (fun x => ((assign tg x (wipeE ρ (on))).bind fun ρ' => (fc ρ').bind fun b => match b with
        | true => (fe ρ').bind asDat
        | false => .ok none).sure) = fx at hx
  have w1 := w.ext x1
  have fit1 := fit.ext w x1
  have nOD := w1.fresh hD
  have nGD : ¬ G D := fun g => nOD (w1.sub D g)
  -- what holds between two turns
  refine ⟨fun i m Hh => m = xs.length - i ∧ i ≤ xs.length ∧ Ext G H1 Hh ∧ ∃ acc ys, Hh D = some (.lst acc) ∧ DpAll K (hide Hh fun a => O a ∨ a = D) acc ys ∧ acc.length ≤ i ∧
    wp (mapGo fx (xs.drop i)) (fun zs => Q0 (.dat (.list (ys ++ zs)))) E0, ⟨xs.length, rfl, Nat.zero_le _, Ext.new w1 hD, [], [], upd_same, .nil, Nat.le_refl _, ?_⟩, ?_⟩
  · exact wp_bind hx
  rintro i m Hh ⟨rfl, hi', xh, acc, ys, hacc, hdp, hle, hgo⟩
  have wO : WOk G (fun a => O a ∨ a = D) Hh := ⟨fun a ga => .inl (w1.sub a ga), fun a ha => by
    rcases ha with ha | ha
    · exact (w1.ext xh).dom a ha
    · subst ha; rw [hacc]; simp, xh.keg⟩
  have sm : Same (hide H1 O) (hide Hh fun a => O a ∨ a = D) := fun b o hb => by
    obtain ⟨n, e⟩ := hide_some.mp hb
    refine hide_some.mpr ⟨fun z => ?_, xh.same b o e fun g => n (w1.sub b g)⟩
    rcases z with z | z
    · exact n z
    · subst z; rw [hD] at e; cases e
  have smH : Same (hide H1 O) Hh := fun b o hb => same_show b o (sm b o hb)
  by_cases hlt : i < xs.length
  · obtain ⟨d, hd⟩ : ∃ d, xs[i]? = some d := ⟨xs[i], by simp [hlt]⟩
    refine .inr ⟨wk.go i d Hh hd smH, fun H' => i + 1 ≤ xs.length ∧ Ext G H1 H' ∧ ∃ acc ys, H' D = some (.lst acc) ∧ DpAll K (hide H' fun a => O a ∨ a = D) acc ys ∧ acc.length ≤ i + 1 ∧
      wp (mapGo fx (xs.drop (i + 1))) (fun zs => Q0 (.dat (.list (ys ++ zs)))) E0, fun H' hn => ⟨xs.length - (i + 1), by omega, rfl, hn⟩, fun x H' hy => ?_⟩
    -- the item
    have item : Ext G Hh H' ∧ Dp K (hide H' fun a => O a ∨ a = D) x d := by
      rcases wk.yl i d Hh x H' hd smH hy with ⟨rfl, h⟩ | ⟨T, vs, es, hT, rfl, rfl, rfl, h⟩
      · exact ⟨Ext.refl wO, Dp.same sm h⟩
      · exact ⟨Ext.new wO hT, dp_newT wO hT (DpAll.same sm h)⟩
    obtain ⟨xi, hdx⟩ := item
    have wi := wO.ext xi
    have fiti : Fit K fA G (fun a => O a ∨ a = D) (wipeE ρ (on)) (L2.wipe σ (on)) H' := ((fit1.view sm).ext wO xi).wipe _
    have edrop : xs.drop i = d :: xs.drop (i + 1) := by
      rw [List.drop_eq_getElem_cons hlt]
      congr 1
      have := List.getElem?_eq_getElem hlt
      rw [hd] at this
      exact (Option.some.inj this).symm
    rw [edrop] at hgo
    have hgo1 := wp_bind (show wp ((fx d).bind fun o => (mapGo fx (xs.drop (i + 1))).bind fun zs => .ok (match o with | some y => y :: zs | none => zs)) (fun zs => Q0 (.dat (.list (ys ++ zs)))) E0 from hgo)
    rw [← hfx] at hgo1
    have hgo2 := wp_bind (wp_sure (E' := fun _ => False) hgo1)
    rw [hfx] at hgo2
    refine ⟨G, _, _, d, _, wi, fiti, hdx, wp_mono hgo2 (fun ρ' h3 σ' f3 o3 => ⟨wipe_eq o3 hss, ?_⟩) (fun _ z => z)⟩
    refine ⟨G, _, ρ', wi, f3, wp_mono (wp_bind h3) (fun b h4 H3 x3 => ite_of ?_) (fun c z => z.elim)⟩
    have xc : Ext G H1 H3 := (xh.trans xi).trans x3
    have hacc3 : H3 D = some (.lst acc) := x3.same D _ (xi.same D _ hacc nGD) nGD
    have w3 := wi.ext x3
    have hdp3 : DpAll K (hide H3 fun a => O a ∨ a = D) acc ys := DpAll.same ((xi.trans x3).hide wO) hdp
    cases b with
    | true =>
      refine ⟨G, _, ρ', w3, f3.ext wi x3, wp_mono (wp_bind h4) (fun d2 h5 v4 H4 x4 r4 => ?_) (fun c z => z.elim)⟩
      obtain ⟨y, rfl, h6⟩ := asDat_wp h5
      have hacc4 := x4.same D _ hacc3 nGD
      have e4 : hide (upd H4 D (.lst (acc ++ [v4]))) (fun a => O a ∨ a = D) = hide H4 (fun a => O a ∨ a = D) := by
        funext b
        unfold hide
        by_cases hb : O b ∨ b = D
        · simp [hb]
        · rw [if_neg hb, if_neg hb, upd_ne (fun z => hb (.inr z))]
      refine ⟨acc, hacc4, ?_, hlt, ⟨fun b o hb ng => ?_, fun a ga => ?_⟩, acc ++ [v4], ys ++ [y], upd_same, ?_, ?_, ?_⟩
      · have := fits_le hf
        omega
      · rw [upd_ne (fun z => by subst z; rw [hD] at hb; cases hb)]
        exact x4.same b o (xc.same b o hb ng) ng
      · obtain ⟨g, k, hk, r⟩ := x4.keg a ga
        exact ⟨g, k, by rw [upd_ne (fun z => by subst z; exact nGD ga)]; exact hk, r⟩
      · rw [e4]
        exact (DpAll.same (x4.hide w3) hdp3).append (.cons r4 .nil)
      · simp; omega
      · refine wp_mono (wp_bind h6) (fun zs hz => ?_) (fun _ z => z)
        rw [List.append_assoc]
        exact hz
    | false =>
      refine ⟨hlt, xc, acc, ys, hacc3, hdp3, by omega, wp_mono (wp_bind h4) (fun zs hz => hz) (fun _ z => z)⟩
  · have e : i = xs.length := by omega
    subst e
    refine .inl ⟨wk.stop Hh smH, ?_⟩
    rw [List.drop_length] at hgo
    replace hgo : Q0 (.dat (.list (ys ++ []))) := hgo
    rw [List.append_nil, ← hQ0] at hgo
    have nO : ¬ O D := nOD
    refine hgo _ Hh (x1.trans xh) (Dp.lst (SqL.of (hide_some.mpr ⟨nO, hacc⟩)) (DpAll.same (fun b o hb => ?_) hdp))
    obtain ⟨n, e⟩ := hide_some.mp hb
    exact hide_some.mpr ⟨fun z => n (.inl z), e⟩

theorem e_comp {elt tge iter : PySem.Expr} {ifs : List PySem.Expr} {scope : Scope} {own : List (Str × Nat)} {on : List Nat} {tg : Tg} {fi : Env → M (List PyData)} {fc : Env → M Bool} {fe : Env → M D} (hon : own.map (·.2) = on) (hss : ∀ i, i ∈ slots tg → i ∈ on)
    (hc : X.calm = true) (hN : X.N.Nodup) (hi : PI X tge iter (tI X.K fA cA W fi)) (ok : BlkOk X.N X.env.scope scope own) (hset : notSet iter = true)
    (hg : ∀ (s : Shared) (H : Hp) (C : Addr) (cl : List (Str × Addr)) (fp : List Addr), PG (X.blk s H scope (compEnvC scope cl C X.env) fp) tge (tG X.K fA tg))
    (ht : ∀ (s : Shared) (H : Hp) (C : Addr) (cl : List (Str × Addr)) (fp : List Addr), PTs (X.blk s H scope (compEnvC scope cl C X.env) fp) ifs (tT X.K fA cA W0 fc))
    (he : ∀ (s : Shared) (H : Hp) (C : Addr) (cl : List (Str × Addr)) (fp : List Addr), PE (X.blk s H scope (compEnvC scope cl C X.env) fp) elt (tE X.K fA cA W0 fe)) :
    PE X (.ListComp elt [⟨tge, iter, ifs, 0⟩] scope pos) (tE X.K fA cA W (compM tg on fi fc fe)) := by
  subst hon
  exact (pe_lc hc hN hi ok hg ht he (by intro x; cases iter <;> first | rfl | cases hset)).imp fun σ H Q q => comp_imp hss q
theorem s_comp {elt tge iter : PySem.Expr} {ifs : List PySem.Expr} {scope : Scope} {own : List (Str × Nat)} {on : List Nat} {tg : Tg} {fi : Env → M (List PyData)} {fc : Env → M Bool} {fe : Env → M D} {i : Nat} {y : Str} {py spos : Pos} (hon : own.map (·.2) = on) (hss : ∀ i, i ∈ slots tg → i ∈ on)
    (hc : X.calm = true) (hN : X.N.Nodup) (hy : X.N[i]? = some y) (hyl : X.env.scope.names.lookup y = some .local)
    (hsw : swapsWith (.ListComp elt [⟨tge, iter, ifs, 0⟩] scope pos) (some (.Name y py)) spos.line X.env = pure true) (hi : PI X tge iter (tI X.K fA cA W fi)) (ok : BlkOk X.N X.env.scope scope own) (hset : notSet iter = true)
    (hg : ∀ (s : Shared) (H : Hp) (C : Addr) (cl : List (Str × Addr)) (fp : List Addr), PG (X.blk s H scope (compEnvC scope cl C X.env) fp) tge (tG X.K fA tg))
    (ht : ∀ (s : Shared) (H : Hp) (C : Addr) (cl : List (Str × Addr)) (fp : List Addr), PTs (X.blk s H scope (compEnvC scope cl C X.env) fp) ifs (tT X.K fA cA W0 fc))
    (he : ∀ (s : Shared) (H : Hp) (C : Addr) (cl : List (Str × Addr)) (fp : List Addr), PE (X.blk s H scope (compEnvC scope cl C X.env) fp) elt (tE X.K fA cA W0 fe)) :
    PS X (.Assign [.Name y py] (.ListComp elt [⟨tge, iter, ifs, 0⟩] scope pos) spos) (tAsg (tE X.K fA cA W (compM tg on fi fc fe)) (gName i)) := by
  subst hon
  exact (ps_setLc hc hN hy hyl hsw hi ok hg ht he (by intro x; cases iter <;> first | rfl | cases hset)).imp fun D σ H q => comp_imp hss q
end
end Ev
end

section
set_option Elab.async false
set_option linter.all false
set_option maxRecDepth 100000
set_option maxHeartbeats 4000000
namespace Ev
open PySem L2
section
variable {N : List Str} {fn dn : Nat → Option Str} {fA cA : Nat → Addr} {F : Nat → List D → M D} {L : Nat}
theorem Good.gl {X : Cx} {sc sa : Scope} {W : WX} (g : Good N fn dn fA cA F L X sc sa W) {x : Str} (h : globB sc x = true) : Gl X x ∧ (x == ("__debug__" : Str)) = false := by
  obtain ⟨h1, h2⟩ := glob_of h
  refine ⟨?_, h2⟩
  show X.env.scope.names.lookup x = _
  rw [g.hsc]; exact h1
theorem Good.blk {X : Cx} {sc sa : Scope} {W : WX} (g : Good N fn dn fA cA F L X sc sa W) (s : Shared) (H : Hp) (scope : Scope) (C : Addr) (cl : List (Str × Addr)) (fp : List Addr) :
    Good N fn dn fA cA F L (X.blk s H scope (compEnvC scope cl C X.env) fp) (relS scope sc) scope W0 where
  hN := g.hN
  hsc := by rw [← g.hsc]; rfl
  nd := g.nd
  calm := g.calm
  takes := takes0
  pass := PassesOwn.never
  room := g.room
  fnx := fun x h => by show (scope.names.lookup x == some .cell) = true; rw [h]; rfl
  funs := fun i x h => ⟨(g.funs i x h).mg, (g.funs i x h).keep, (g.funs i x h).ok⟩
  drums := fun i x h => ⟨(g.drums i x h).mg, (g.drums i x h).keep, (g.drums i x h).ok⟩
  blts := g.blts
theorem nomark_set {op : CmpOp} {e : PySem.Expr} (h : notSet e = true) : behindInMarks op e = false := by
  cases e <;> first | rfl | cases h
theorem ev_eq_evs {es : Es} : evs F es = fun ρ => evs F es ρ := rfl
theorem isTrue_call {f : PySem.Expr} {as : List PySem.Expr} {ks : List Keyword} {pos : Pos} {env : PySem.Env} : ∀ whole, isTrue (.Call f as ks pos) env whole = (do let v ← whole; standAt (PySem.Expr.Call f as ks pos).pos; holding [v] (truthy v)) := by intro _; rfl
theorem isTrue_name {x : Str} {pos : Pos} {env : PySem.Env} : ∀ whole, isTrue (.Name x pos) env whole = (do let v ← whole; standAt (PySem.Expr.Name x pos).pos; holding [v] (truthy v)) := by intro _; rfl
theorem own_map (own : List Nat) : (ownOf N own).map (·.2) = own := by
  unfold ownOf
  rw [List.map_map]
  exact List.map_id' _
mutual
theorem sE : ∀ (c : E) {sc sa : Scope} {e : PySem.Expr} {X : Cx} {W : WX}, okE N fn sc c e = true → Good N fn dn fA cA F L X sc sa W → PE X e (tE X.K fA cA W (ev F c))
  | .var i, sc, sa, e, X, W, h, g => by
    unfold okE at h
    split at h
    · rename_i x pos
      simp only [Bool.and_eq_true] at h
      obtain ⟨h1, h2, h3⟩ := name_of h.1
      rw [← g.hN] at h1
      have hv := vis_of h.2
      rw [← g.hsc] at hv
      exact e_var (pe_var h1 hv h2 h3)
    · cases h
  | .int n, sc, sa, e, X, W, h, g => by
    unfold okE at h
    split at h
    · simp only [decide_eq_true_eq] at h
      subst h
      exact e_ok pe_int (fun _ _ _ => Dp.int _)
    · cases h
  | .bl b, sc, sa, e, X, W, h, g => by
    unfold okE at h
    split at h
    · simp only [decide_eq_true_eq] at h
      subst h
      exact e_ok pe_bl (fun _ _ _ => Dp.bl _)
    · cases h
  | .non, sc, sa, e, X, W, h, g => by
    unfold okE at h
    split at h
    · exact e_ok pe_non (fun _ _ _ => Dp.non)
    · cases h
  | .fn i, sc, sa, e, X, W, h, g => by
    unfold okE at h
    split at h
    · simp only [Bool.and_eq_true, decide_eq_true_eq] at h
      obtain ⟨h1, h2⟩ := g.gl h.1
      exact e_ok (pe_glob (v := .ref (fA i)) h1 (g.funs i _ h.2).mg rfl h2) (fun _ _ _ => rfl)
    · cases h
  | .bin op a b, sc, sa, e, X, W, h, g => by
    unfold okE at h
    split at h
    · simp only [Bool.and_eq_true, decide_eq_true_eq] at h
      obtain ⟨⟨h0, h1⟩, h2⟩ := h
      subst h0
      exact e_bin (sE a h1 g) (sE b h2 g)
    · cases h
  | .neg a, sc, sa, e, X, W, h, g => by
    unfold okE at h
    split at h
    · exact e_neg (sE a h g)
    · cases h
  | .cmp op a b, sc, sa, e, X, W, h, g => by
    unfold okE at h
    split at h
    · simp only [Bool.and_eq_true, decide_eq_true_eq] at h
      obtain ⟨⟨⟨h0, hm⟩, h1⟩, h2⟩ := h
      subst h0
      exact e_cmp g.room (nomark_set hm) (sE a h1 g) (sE b h2 g)
    · cases h
  | .chain o1 o2 a b c, sc, sa, e, X, W, h, g => by
    unfold okE at h
    split at h
    · simp only [Bool.and_eq_true, decide_eq_true_eq] at h
      obtain ⟨⟨⟨⟨⟨h0, h0'⟩, hm⟩, h1⟩, h2⟩, h3⟩ := h
      subst h0 h0'
      exact e_chain g.room (by show behindInMarks _ _ = false; exact nomark_set hm) (sE a h1 g) (sE b h2 g) (sE c h3 g)
    · cases h
  | .bop conj es, sc, sa, e, X, W, h, g => by
    unfold okE at h
    split at h
    · simp only [Bool.and_eq_true, decide_eq_true_eq] at h
      obtain ⟨h0, h1⟩ := h
      subst h0
      exact sV conj es h1 g
    · cases h
  | .not a, sc, sa, e, X, W, h, g => by
    unfold okE at h
    split at h
    · exact e_not (sE a h g)
    · cases h
  | .ite t a b, sc, sa, e, X, W, h, g => by
    unfold okE at h
    split at h
    · simp only [Bool.and_eq_true] at h
      exact e_ite (sT t h.1.1 g) (sE a h.1.2 g) (sE b h.2 g)
    · cases h
  | .tup es, sc, sa, e, X, W, h, g => by
    unfold okE at h
    split at h
    · simp only [Bool.and_eq_true] at h
      exact e_tup (sEs es h.1 h.2 g)
    · cases h
  | .lst es, sc, sa, e, X, W, h, g => by
    unfold okE at h
    split at h
    · simp only [Bool.and_eq_true] at h
      exact e_lst (sEs es h.1 h.2 g)
    · cases h
  | .call f es, sc, sa, e, X, W, h, g => by
    unfold okE at h
    split at h
    · simp only [Bool.and_eq_true, decide_eq_true_eq] at h
      obtain ⟨⟨⟨h0, hf⟩, h1⟩, h2⟩ := h
      obtain ⟨hg, hd⟩ := g.gl h0
      exact e_call (g.funs f _ hf) g.room g.takes hg hd h2 (sEs es h1 h2 g)
    · simp only [Bool.and_eq_true, decide_eq_true_eq] at h
      obtain ⟨⟨h0, hf⟩, h1⟩ := h
      obtain ⟨hg, hd⟩ := g.gl h0
      cases es with
      | nil => exact e_call0 (g.funs f _ hf) g.room g.takes hg hd
      | cons _ _ => unfold okEs at h1; cases h1
    · cases h
  | .callv i fs es, sc, sa, e, X, W, h, g => by
    unfold okE at h
    split at h
    · simp only [Bool.and_eq_true] at h
      obtain ⟨⟨⟨⟨hf, h0⟩, hv⟩, h1⟩, h2⟩ := h
      obtain ⟨n1, n2, n3⟩ := name_of h0
      rw [← g.hN] at n1
      have hv := vis_of hv
      rw [← g.hsc] at hv
      refine e_callv (fun k hk => ?_) g.room g.takes n1 hv n2 n3 h2 (sEs es h1 h2 g)
      have hk' : k ∈ fs := by simpa using hk
      have := List.all_eq_true.mp hf k hk'
      obtain ⟨x, hx⟩ := Option.isSome_iff_exists.mp this
      exact ⟨x, g.funs k x hx⟩
    · cases h
  | .blt b a, sc, sa, e, X, W, h, g => by
    unfold okE at h
    split at h
    · simp only [Bool.and_eq_true, decide_eq_true_eq] at h
      obtain ⟨⟨⟨h0, hx⟩, h1⟩, h2⟩ := h
      subst hx
      exact e_blt (g.gl h0).1 (g.blts _ (by cases b <;> decide)) h2 (sE a h1 g)
    · cases h
  | .isi a t, sc, sa, e, X, W, h, g => by
    unfold okE at h
    split at h
    · simp only [Bool.and_eq_true, decide_eq_true_eq] at h
      obtain ⟨⟨⟨⟨⟨h0, hx⟩, h1⟩, hy⟩, h2⟩, h3⟩ := h
      subst hx hy
      exact e_isi0 (g.gl h0).1 (g.blts _ (by decide)) (g.gl h1).1 (g.blts _ (by cases t <;> decide)) h3 (sE a h2 g)
    · cases h
  | .idx a b, sc, sa, e, X, W, h, g => by
    unfold okE at h
    split at h
    · simp only [Bool.and_eq_true] at h
      exact e_idx h.1.1 (sE a h.1.2 g) (sE b h.2 g)
    · cases h
  | .slice a lo hi, sc, sa, e, X, W, h, g => by
    unfold okE at h
    split at h
    · simp only [Bool.and_eq_true] at h
      exact e_slice (sE a h.1.1 g) (sO lo h.1.2 g) (sO hi h.2 g)
    · cases h
  | .comp own tg it cond elt, sc, sa, e, X, W, h, g => by
    unfold okE at h
    split at h
    · rename_i eelt etg eit eifs as scope pos
      simp only [Bool.and_eq_true, decide_eq_true_eq] at h
      obtain ⟨⟨⟨⟨⟨⟨⟨h0, hset⟩, hss⟩, hblk⟩, htg⟩, hit⟩, hcond⟩, helt⟩ := h
      subst h0
      have hb : BlkOk X.N X.env.scope scope (ownOf N own) := by rw [g.hN, g.hsc]; exact blkOk_by hblk
      refine e_comp (own_map own) (fun i hi => ?_) g.calm g.nd (sI it hit g) hb hset (fun s H C cl fp => ?_) (fun s H C cl fp => ?_) (fun s H C cl fp => ?_)
      · have := List.all_eq_true.mp hss i hi
        simpa using this
      · have gb := g.blk s H scope C cl fp
        exact sTg gb.hN gb.hsc gb.nd gb.calm gb.fnx tg etg htg
      · exact sC cond hcond (g.blk s H scope C cl fp)
      · exact sE elt helt (g.blk s H scope C cl fp)
    · cases h
theorem sT : ∀ (c : E) {sc sa : Scope} {e : PySem.Expr} {X : Cx} {W : WX}, okE N fn sc c e = true → Good N fn dn fA cA F L X sc sa W → PT X e (tT X.K fA cA W (evT F c))
  | .var i, sc, sa, e, X, W, h, g => by
    unfold okE at h
    split at h
    · rename_i x pos
      simp only [Bool.and_eq_true] at h
      obtain ⟨h1, h2, h3⟩ := name_of h.1
      rw [← g.hN] at h1
      have hv := vis_of h.2
      rw [← g.hsc] at hv
      exact t_val (e_var (pe_var h1 hv h2 h3)) isTrue_name
    · cases h
  | .cmp op a b, sc, sa, e, X, W, h, g => by
    unfold okE at h
    split at h
    · simp only [Bool.and_eq_true, decide_eq_true_eq] at h
      obtain ⟨⟨⟨h0, hm⟩, h1⟩, h2⟩ := h
      subst h0
      exact t_cmp g.room (nomark_set hm) (sE a h1 g) (sE b h2 g)
    · cases h
  | .chain o1 o2 a b c, sc, sa, e, X, W, h, g => by
    unfold okE at h
    split at h
    · simp only [Bool.and_eq_true, decide_eq_true_eq] at h
      obtain ⟨⟨⟨⟨⟨h0, h0'⟩, hm⟩, h1⟩, h2⟩, h3⟩ := h
      subst h0 h0'
      exact t_chain g.room (by show behindInMarks _ _ = false; exact nomark_set hm) (sE a h1 g) (sE b h2 g) (sE c h3 g)
    · cases h
  | .bop conj es, sc, sa, e, X, W, h, g => by
    unfold okE at h
    split at h
    · simp only [Bool.and_eq_true, decide_eq_true_eq] at h
      obtain ⟨h0, h1⟩ := h
      subst h0
      exact (sB conj es h1 g).pt
    · cases h
  | .not a, sc, sa, e, X, W, h, g => by
    unfold okE at h
    split at h
    · exact t_not (sT a h g)
    · cases h
  | .call f es, sc, sa, e, X, W, h, g => by
    unfold okE at h
    split at h
    · simp only [Bool.and_eq_true, decide_eq_true_eq] at h
      obtain ⟨⟨⟨h0, hf⟩, h1⟩, h2⟩ := h
      obtain ⟨hg, hd⟩ := g.gl h0
      exact t_val (e_call (g.funs f _ hf) g.room g.takes hg hd h2 (sEs es h1 h2 g)) isTrue_call
    · simp only [Bool.and_eq_true, decide_eq_true_eq] at h
      obtain ⟨⟨h0, hf⟩, h1⟩ := h
      obtain ⟨hg, hd⟩ := g.gl h0
      cases es with
      | nil => exact t_val (e_call0 (g.funs f _ hf) g.room g.takes hg hd) isTrue_call
      | cons _ _ => unfold okEs at h1; cases h1
    · cases h
  | .isi a t, sc, sa, e, X, W, h, g => by
    unfold okE at h
    split at h
    · simp only [Bool.and_eq_true, decide_eq_true_eq] at h
      obtain ⟨⟨⟨⟨⟨h0, hx⟩, h1⟩, hy⟩, h2⟩, h3⟩ := h
      subst hx hy
      exact (t_val (e_isi0 (g.gl h0).1 (g.blts _ (by decide)) (g.gl h1).1 (g.blts _ (by cases t <;> decide)) h3 (sE a h2 g)) isTrue_call).imp fun σ H Q q => by
        obtain ⟨G, O, ρ, w, fit, hw⟩ := q
        refine ⟨G, O, ρ, w, fit, wp_bind' (wp_bind' (wp_mono (wp_bind hw) (fun d hd => wp_bind' (wp_mono hd (fun b hb => hb) (fun _ z => z))) (fun _ z => z)))⟩
    · cases h
  | .int _, _, _, _, _, _, _, _ => t_no fun _ => rfl
  | .bl _, _, _, _, _, _, _, _ => t_no fun _ => rfl
  | .non, _, _, _, _, _, _, _ => t_no fun _ => rfl
  | .fn _, _, _, _, _, _, _, _ => t_no fun _ => rfl
  | .bin _ _ _, _, _, _, _, _, _, _ => t_no fun _ => rfl
  | .neg _, _, _, _, _, _, _, _ => t_no fun _ => rfl
  | .ite _ _ _, _, _, _, _, _, _, _ => t_no fun _ => rfl
  | .tup _, _, _, _, _, _, _, _ => t_no fun _ => rfl
  | .lst _, _, _, _, _, _, _, _ => t_no fun _ => rfl
  | .callv _ _ _, _, _, _, _, _, _, _ => t_no fun _ => rfl
  | .blt _ _, _, _, _, _, _, _, _ => t_no fun _ => rfl
  | .idx _ _, _, _, _, _, _, _, _ => t_no fun _ => rfl
  | .slice _ _ _, _, _, _, _, _, _, _ => t_no fun _ => rfl
  | .comp _ _ _ _ _, _, _, _, _, _, _, _ => t_no fun _ => rfl
theorem sEs : ∀ (cs : Es) {sc sa : Scope} {es : List PySem.Expr} {X : Cx} {W : WX}, okEs N fn sc cs es = true → allNostar es = true → Good N fn dn fA cA F L X sc sa W → PA X es (tAr X.K fA cA W (evs F cs))
  | .nil, sc, sa, es, X, W, h, hs, g => by
    unfold okEs at h
    split at h
    · exact a_nil
    · cases h
  | .cons c cs, sc, sa, es, X, W, h, hs, g => by
    unfold okEs at h
    split at h
    · simp only [Bool.and_eq_true] at h
      unfold allNostar at hs
      simp only [Bool.and_eq_true] at hs
      exact a_cons hs.1 (sE c h.1 g) (sEs cs h.2 hs.2 g)
    · cases h
theorem sB : ∀ (conj : Bool) (cs : Es) {sc sa : Scope} {es : List PySem.Expr} {pos : Pos} {X : Cx} {W : WX}, okEs N fn sc cs es = true → Good N fn dn fA cA F L X sc sa W → PW X (.BoolOp (if conj then .And else .Or) es pos) (tT X.K fA cA W (evB F conj cs))
  | conj, .nil, sc, sa, es, pos, X, W, h, g => ⟨fun whole pins s σ H Q I q => by
    obtain ⟨G, O, ρ, w, fit, hw⟩ := q
    unfold evB at hw
    exact hw.elim⟩
  | conj, .cons c .nil, sc, sa, es, pos, X, W, h, g => by
    unfold okEs at h
    split at h
    · simp only [Bool.and_eq_true] at h
      obtain ⟨h1, h2⟩ := h
      unfold okEs at h2
      split at h2
      · exact w_one (sT c h1 g)
      · cases h2
    · cases h
  | true, .cons c (.cons c2 cs), sc, sa, es, pos, X, W, h, g => by
    unfold okEs at h
    split at h
    · simp only [Bool.and_eq_true] at h
      obtain ⟨h1, h2⟩ := h
      rename_i e es
      cases es with
      | nil => unfold okEs at h2; cases h2
      | cons e2 es => exact w_and (sT c h1 g) (sB true (.cons c2 cs) h2 g)
    · cases h
  | false, .cons c (.cons c2 cs), sc, sa, es, pos, X, W, h, g => by
    unfold okEs at h
    split at h
    · simp only [Bool.and_eq_true] at h
      obtain ⟨h1, h2⟩ := h
      rename_i e es
      cases es with
      | nil => unfold okEs at h2; cases h2
      | cons e2 es => exact w_or (sT c h1 g) (sB false (.cons c2 cs) h2 g)
    · cases h
theorem sV : ∀ (conj : Bool) (cs : Es) {sc sa : Scope} {es : List PySem.Expr} {pos : Pos} {X : Cx} {W : WX}, okEs N fn sc cs es = true → Good N fn dn fA cA F L X sc sa W → PE X (.BoolOp (if conj then .And else .Or) es pos) (tE X.K fA cA W (evV F conj cs))
  | conj, .nil, sc, sa, es, pos, X, W, h, g => e_no fun ρ => by unfold evV; rfl
  | conj, .cons c .nil, sc, sa, es, pos, X, W, h, g => by
    unfold okEs at h
    split at h
    · simp only [Bool.and_eq_true] at h
      obtain ⟨h1, h2⟩ := h
      unfold okEs at h2
      split at h2
      · exact pe_one (sE c h1 g)
      · cases h2
    · cases h
  | true, .cons c (.cons c2 cs), sc, sa, es, pos, X, W, h, g => by
    unfold okEs at h
    split at h
    · simp only [Bool.and_eq_true] at h
      obtain ⟨h1, h2⟩ := h
      rename_i e es
      cases es with
      | nil => unfold okEs at h2; cases h2
      | cons e2 es => exact v_and (sE c h1 g) (sV true (.cons c2 cs) h2 g)
    · cases h
  | false, .cons c (.cons c2 cs), sc, sa, es, pos, X, W, h, g => by
    unfold okEs at h
    split at h
    · simp only [Bool.and_eq_true] at h
      obtain ⟨h1, h2⟩ := h
      rename_i e es
      cases es with
      | nil => unfold okEs at h2; cases h2
      | cons e2 es => exact v_or (sE c h1 g) (sV false (.cons c2 cs) h2 g)
    · cases h
theorem sO : ∀ (c : Oe) {sc sa : Scope} {o : Option PySem.Expr} {X : Cx} {W : WX}, okO N fn sc c o = true → Good N fn dn fA cA F L X sc sa W → PO X o (tO X.K fA cA W (evO F c))
  | .none, sc, sa, o, X, W, h, g => by
    unfold okO at h
    split at h
    · exact o_none
    · cases h
  | .some c, sc, sa, o, X, W, h, g => by
    unfold okO at h
    split at h
    · exact o_some (sE c h g)
    · cases h
theorem sC : ∀ (c : Oe) {sc sa : Scope} {o : List PySem.Expr} {X : Cx} {W : WX}, okC N fn sc c o = true → Good N fn dn fA cA F L X sc sa W → PTs X o (tT X.K fA cA W (evC F c))
  | .none, sc, sa, o, X, W, h, g => by
    unfold okC at h
    split at h
    · exact c_none
    · cases h
  | .some c, sc, sa, o, X, W, h, g => by
    unfold okC at h
    split at h
    · exact pts_one (sT c h g)
    · cases h
theorem sI : ∀ (c : It) {sc sa : Scope} {e tg : PySem.Expr} {X : Cx} {W : WX}, okI N fn sc c e = true → Good N fn dn fA cA F L X sc sa W → PI X tg e (tI X.K fA cA W (evI F c))
  | .seq c, sc, sa, e, tg, X, W, h, g => by
    unfold okI at h
    simp only [Bool.and_eq_true] at h
    exact i_seq (sE c h.1 g)
  | .range1 a, sc, sa, e, tg, X, W, h, g => by
    unfold okI at h
    split at h
    · simp only [Bool.and_eq_true, decide_eq_true_eq] at h
      obtain ⟨⟨⟨h0, hx⟩, h1⟩, h2⟩ := h
      subst hx
      exact i_range1 (g.gl h0).1 (g.blts _ (by decide)) h2 (sE a h1 g)
    · cases h
  | .range2 a b, sc, sa, e, tg, X, W, h, g => by
    unfold okI at h
    split at h
    · simp only [Bool.and_eq_true, decide_eq_true_eq] at h
      obtain ⟨⟨⟨⟨⟨h0, hx⟩, h1⟩, h2⟩, h3⟩, h4⟩ := h
      subst hx
      exact i_range2 (g.gl h0).1 (g.blts _ (by decide)) h3 h4 (sE a h1 g) (sE b h2 g)
    · cases h
end
end
end Ev
end

section
set_option Elab.async false
set_option linter.all false
set_option maxRecDepth 100000
set_option maxHeartbeats 4000000
namespace Ev
open PySem L2

/-! ## Statements -/
/-- where a def began, and what must stay -/
structure Base where
  G : Addr → Prop
  O : Addr → Prop
  H : Hp
  V : Hp
section
variable (K : PySem.W.Frag) (fA cA : Nat → Addr)
structure FrW (B : Base) (G O : Addr → Prop) (ρ : Env) (σ : L2.St) (H : Hp) : Prop where
  w : WOk G O H
  fit : Fit K fA G O ρ σ H
  g0 : ∀ a, B.G a → G a
  o0 : ∀ a, B.O a → O a
  gnew : ∀ a, G a → ¬ B.G a → B.H a = none
  onew : ∀ a, O a → ¬ B.O a → B.H a = none
  ext : Ext B.G B.H H
  hv : Same B.V H
  hvO : ∀ b o, B.V b = some o → ¬ O b
  acc : ∀ (i : Nat) (xs : List PyData), ρ[i]? = some (some (.acc xs)) → ∃ p vs, σ[i]? = some (some (.ref p)) ∧ O p ∧ ¬ B.O p ∧ ¬ G p ∧ H p = some (.lst vs) ∧ DpAll K (hide H O) vs xs
  inj : ∀ (i j : Nat) (xs ys : List PyData) (p : Addr), ρ[i]? = some (some (.acc xs)) → ρ[j]? = some (some (.acc ys)) → σ[i]? = some (some (.ref p)) → σ[j]? = some (some (.ref p)) → i = j
def Fr (B : Base) (ρ : Env) (σ : L2.St) (H : Hp) : Prop := ∃ G O, FrW K fA B G O ρ σ H
def post (B : Base) (D : Ends) : Flow → Prop
  | .nx ρ' => ∀ σ' H', Fr K fA B ρ' σ' H' → D.nx σ' H'
  | .rt d => ∀ v H', Ext B.G B.H H' → Rep K fA B.G B.O H' v d → D.rt v H'
def postE (W : WX) (B : Base) (c : Nat) : Prop := ∀ σ' H', Ext B.G B.H H' → W (.ref (cA c)) none σ' H'
def tS (W : WX) (f : Env → M Flow) : TS := fun D σ H => ∃ B ρ, Fr K fA B ρ σ H ∧ wp (f ρ) (post K fA B D) (postE cA W B)
end
section
variable {K : PySem.W.Frag} {fA cA : Nat → Addr} {B : Base} {G O : Addr → Prop} {ρ : Env} {σ : L2.St} {H H1 : Hp} {W : WX}
theorem FrW.step (f : FrW K fA B G O ρ σ H) (x : Ext G H H1) : FrW K fA B G O ρ σ H1 where
  w := f.w.ext x
  fit := f.fit.ext f.w x
  g0 := f.g0
  o0 := f.o0
  gnew := f.gnew
  onew := f.onew
  ext := ⟨fun b o h n => x.same b o (f.ext.same b o h n) fun g => (by
      have := f.gnew b g n
      rw [h] at this
      exact nomatch this), fun a ga => x.keg a (f.g0 a ga)⟩
  hv := fun b o h => x.same b o (f.hv b o h) fun g => f.hvO b o h (f.w.sub b g)
  hvO := f.hvO
  acc := fun i xs h => by
    obtain ⟨p, vs, h1, h2, h3, h4, h5, h6⟩ := f.acc i xs h
    exact ⟨p, vs, h1, h2, h3, h4, x.same p _ h5 h4, DpAll.same (x.hide f.w) h6⟩
  inj := f.inj
theorem FrW.asd {ss : List Nat} {ρ' : Env} {σ' : L2.St} (f : FrW K fA B G O ρ σ H) (fit : Fit K fA G O ρ' σ' H) (a : Asd ss ρ ρ') (o : Off ss σ σ') : FrW K fA B G O ρ' σ' H where
  w := f.w
  fit := fit
  g0 := f.g0
  o0 := f.o0
  gnew := f.gnew
  onew := f.onew
  ext := f.ext
  hv := f.hv
  hvO := f.hvO
  acc := fun i xs h => by
    have hi : i ∉ ss := fun z => a.on i xs z h
    rw [a.off i hi] at h
    rw [o.off i hi]
    exact f.acc i xs h
  inj := fun i j xs ys p h1 h2 h3 h4 => by
    have hi : i ∉ ss := fun z => a.on i xs z h1
    have hj : j ∉ ss := fun z => a.on j ys z h2
    rw [a.off i hi] at h1
    rw [a.off j hj] at h2
    rw [o.off i hi] at h3
    rw [o.off j hj] at h4
    exact f.inj i j xs ys p h1 h2 h3 h4
theorem FrW.set {i : Nat} {d : D} {v : V} (f : FrW K fA B G O ρ σ H) (r : Rep K fA G O H v d) : FrW K fA B G O (ρ.set i (some d)) (σ.set i (some v)) H :=
  f.asd (ss := [i]) (f.fit.set r) (Asd.set fun xs z => by subst z; exact r) Off.set
/-- an expression within a statement -/
theorem stepE {α : Type} {f : Env → M D} {k : D → M α} {Q : α → Prop} {R : VK} (fr : FrW K fA B G O ρ σ H) (hw : wp ((f ρ).bind k) Q (postE cA W B))
    (hk : ∀ d, wp (k d) Q (postE cA W B) → ∀ v H1, FrW K fA B G O ρ σ H1 → Rep K fA G O H1 v d → R v H1) : tE K fA cA W f σ H R :=
  seqE fr.w fr.fit hw (fun c h H' x => h σ H' (fr.step x).ext) fun d hd v H1 x1 r1 => hk d hd v H1 (fr.step x1) r1
theorem stepT {α : Type} {f : Env → M Bool} {k : Bool → M α} {Q : α → Prop} {R : Bool → Hp → Prop} (fr : FrW K fA B G O ρ σ H) (hw : wp ((f ρ).bind k) Q (postE cA W B))
    (hk : ∀ d, wp (k d) Q (postE cA W B) → ∀ H1, FrW K fA B G O ρ σ H1 → R d H1) : tT K fA cA W f σ H R :=
  seqT fr.w fr.fit hw (fun c h H' x => h σ H' (fr.step x).ext) fun d hd H1 x1 => hk d hd H1 (fr.step x1)
theorem stepA {α : Type} {f : Env → M (List D)} {k : List D → M α} {Q : α → Prop} {R : List V → Hp → Prop} (fr : FrW K fA B G O ρ σ H) (hw : wp ((f ρ).bind k) Q (postE cA W B))
    (hk : ∀ d, wp (k d) Q (postE cA W B) → ∀ v H1, FrW K fA B G O ρ σ H1 → Reps K fA G O H1 v d → R v H1) : tAr K fA cA W f σ H R :=
  seqA fr.w fr.fit hw (fun c h H' x => h σ H' (fr.step x).ext) fun d hd v H1 x1 r1 => hk d hd v H1 (fr.step x1) r1
/-- what is handed back -/
theorem FrW.back {d : D} {v : V} (f : FrW K fA B G O ρ σ H) (r : Rep K fA G O H v d) (hk : d ≠ .keg) : Rep K fA B.G B.O H v d := by
  cases d with
  | dat x => exact Dp.same (fun b o h => by
      obtain ⟨n, e⟩ := hide_some.mp h
      exact hide_some.mpr ⟨fun z => n (f.o0 b z), e⟩) r
  | fn _ => exact r
  | keg => exact absurd rfl hk
  | acc _ => exact r
end
section
variable {X : Cx} {fA cA : Nat → Addr} {W : WX} {pos : Pos}
variable {ea eb ec : PySem.Expr} {f g h : Env → M D} {t : Env → M Bool}
theorem ss_nil : PSs X [] (tS X.K fA cA W fun ρ => .ok (.nx ρ)) := pss_nil.imp fun D σ H q => by
  obtain ⟨B, ρ, fr, hw⟩ := q
  exact hw σ H fr
theorem ss_cons {st : Stmt} {sts : List Stmt} {a b : Env → M Flow} (h1 : PS X st (tS X.K fA cA W a)) (h2 : PSs X sts (tS X.K fA cA W b)) : PSs X (st :: sts) (tS X.K fA cA W fun ρ => (a ρ).bind fun fl => match fl with
    | .nx ρ' => b ρ'
    | .rt d => .ok (.rt d)) :=
  (pss_cons h1 h2).imp fun D σ H q => by
    obtain ⟨B, ρ, fr, hw⟩ := q
    refine ⟨B, ρ, fr, wp_mono (wp_bind hw) (fun fl h => ?_) (fun c z => z)⟩
    cases fl with
    | nx ρ' => exact fun σ' H' fr' => ⟨B, ρ', fr', h⟩
    | rt d => exact h
theorem assignD_name {i : Nat} {d : D} {ρ : Env} {Q : Env → Prop} {E : Nat → Prop} (h : wp (assignD (.name i) d ρ) Q E) : Q (ρ.set i (some d)) := by
  cases d with
  | acc _ => exact h.elim
  | dat _ => exact h
  | fn _ => exact h
  | keg => exact h
theorem name_imp {i : Nat} {D : Ends} {σ : L2.St} {H : Hp} (q : tS X.K fA cA W (fun ρ => (f ρ).bind fun d => (assignD (.name i) d ρ).bind fun ρ' => .ok (.nx ρ')) D σ H) : tAsg (tE X.K fA cA W f) (gName i) D σ H := by
  obtain ⟨B, ρ, ⟨G, O, fr⟩, hw⟩ := q
  refine stepE fr hw fun d hd v H1 fr1 r1 => ?_
  have := assignD_name (wp_bind hd)
  exact this _ H1 ⟨G, O, fr1.set r1⟩
theorem s_name {i : Nat} {x : Str} {p : Pos} (hN : X.N.Nodup) (hi : X.N[i]? = some x) (hx : Loc X.env.scope x) (hf : X.fn x = true ∨ X.env.scope.names.lookup x = some .local) (hs : swapsWith ea (some (.Name x p)) pos.line X.env = pure false) (ha : PE X ea (tE X.K fA cA W f)) :
    PS X (.Assign [.Name x p] ea pos) (tS X.K fA cA W fun ρ => (f ρ).bind fun d => (assignD (.name i) d ρ).bind fun ρ' => .ok (.nx ρ')) :=
  (ps_set hN hi hx ha hs hf).imp fun D σ H q => name_imp q
theorem assignD_tup {tg : Tg} {d : D} {ρ : Env} {Q : Env → Prop} {E : Nat → Prop} (hn : ∀ i, tg ≠ .name i) (h : wp (assignD tg d ρ) Q E) : ∃ x, d = .dat x ∧ wp (assign tg x ρ) Q E := by
  cases tg with
  | name i => exact absurd rfl (hn i)
  | nil =>
    cases d with
    | dat x => exact ⟨x, rfl, h⟩
    | _ => exact h.elim
  | cons a b =>
    cases d with
    | dat x => exact ⟨x, rfl, h⟩
    | _ => exact h.elim
theorem s_tup {tge : PySem.Expr} {tg : Tg} (hn : ∀ i, tg ≠ .name i) (hs : swapsWithSole [tge] ea pos.line X.env = pure false) (hw : swappedStores [tge] ea X.env = pure none) (h1 : nostar tge = true) (ha : PE X ea (tE X.K fA cA W f)) (hg : PG X tge (tG X.K fA tg)) :
    PS X (.Assign [tge] ea pos) (tS X.K fA cA W fun ρ => (f ρ).bind fun d => (assignD tg d ρ).bind fun ρ' => .ok (.nx ρ')) :=
  (ps_asg ha hg hs hw (by rw [asg_cons h1]; rfl)).imp fun D σ H q => by
    obtain ⟨B, ρ, ⟨G, O, fr⟩, hw⟩ := q
    refine stepE fr hw fun d hd v H1 fr1 r1 => ?_
    obtain ⟨x, rfl, hx⟩ := assignD_tup hn (wp_bind hd)
    refine ⟨G, O, ρ, x, _, fr1.w, fr1.fit, r1, wp_mono (assign_asd tg x ρ hx) (fun ρ' ⟨h1, a1⟩ σ' f1 o1 => ?_) (fun _ z => z)⟩
    exact h1 σ' H1 ⟨G, O, fr1.asd f1 a1 o1⟩
theorem s_par2 {i j : Nat} {st : Stmt} (h : ∀ {ta : TA}, PA X [ea, eb] ta → PS X st (tPar i j ta)) (sa : nostar ea = true) (sb : nostar eb = true) (ha : PE X ea (tE X.K fA cA W f)) (hb : PE X eb (tE X.K fA cA W g)) :
    PS X st (tS X.K fA cA W fun ρ => (f ρ).bind fun x => (g ρ).bind fun y => .ok (.nx ((ρ.set i (some x)).set j (some y)))) :=
  (h (pa_cons ha (pa_cons hb pa_nil (star_cons sb)) (star_cons sa))).imp fun D σ H q => by
    obtain ⟨B, ρ, ⟨G, O, fr⟩, hw⟩ := q
    refine stepE fr hw fun d hd v H1 fr1 r1 => ?_
    refine seqE fr1.w fr1.fit hd (fun c h H' x => h σ H' (fr1.step x).ext) fun e he u H2 x2 r2 => ?_
    exact ⟨v, u, rfl, he _ H2 ⟨G, O, ((fr1.step x2).set (r1.ext fr1.w x2)).set r2⟩⟩
theorem s_par3 {i j k : Nat} {st : Stmt} (hp : ∀ {ta : TA}, PA X [ea, eb, ec] ta → PS X st (tPar3 i j k ta)) (sa : nostar ea = true) (sb : nostar eb = true) (sc : nostar ec = true) (ha : PE X ea (tE X.K fA cA W f)) (hb : PE X eb (tE X.K fA cA W g)) (hc : PE X ec (tE X.K fA cA W h)) :
    PS X st (tS X.K fA cA W fun ρ => (f ρ).bind fun x => (g ρ).bind fun y => (h ρ).bind fun z => .ok (.nx (((ρ.set i (some x)).set j (some y)).set k (some z)))) :=
  (hp (pa_cons ha (pa_cons hb (pa_cons hc pa_nil (star_cons sc)) (star_cons sb)) (star_cons sa))).imp fun D σ H q => by
    obtain ⟨B, ρ, ⟨G, O, fr⟩, hw⟩ := q
    refine stepE fr hw fun d hd v H1 fr1 r1 => ?_
    refine seqE fr1.w fr1.fit hd (fun c h H' x => h σ H' (fr1.step x).ext) fun e he u H2 x2 r2 => ?_
    have fr2 := fr1.step x2
    refine seqE fr2.w fr2.fit he (fun c h H' x => h σ H' (fr2.step x).ext) fun e' he' u' H3 x3 r3 => ?_
    exact ⟨v, u, u', rfl, he' _ H3 ⟨G, O, (((fr2.step x3).set ((r1.ext fr1.w x2).ext fr2.w x3)).set (r2.ext fr2.w x3)).set r3⟩⟩
theorem s_expr (hs : swapsWith ea none pos.line X.env = pure false) (ha : PE X ea (tE X.K fA cA W f)) : PS X (.Expr ea pos) (tS X.K fA cA W fun ρ => (f ρ).bind fun _ => .ok (.nx ρ)) :=
  (ps_expr ha hs).imp fun D σ H q => by
    obtain ⟨B, ρ, ⟨G, O, fr⟩, hw⟩ := q
    exact stepE fr hw fun d hd v H1 fr1 r1 => hd σ H1 ⟨G, O, fr1⟩
theorem s_ret (ha : PE X ea (tE X.K fA cA W f)) : PS X (.Return (some ea) pos) (tS X.K fA cA W fun ρ => (f ρ).bind retD) :=
  (ps_ret ha).imp fun D σ H q => by
    obtain ⟨B, ρ, ⟨G, O, fr⟩, hw⟩ := q
    refine stepE fr hw fun d hd v H1 fr1 r1 => ?_
    cases d with
    | keg => exact hd.elim
    | dat x => exact hd v H1 fr1.ext (fr1.back r1 (by simp))
    | fn x => exact hd v H1 fr1.ext (fr1.back r1 (by simp))
    | acc x => exact r1.elim
theorem s_if {a b : List Stmt} {fa fb : Env → M Flow} (hc : PT X ec (tT X.K fA cA W t)) (ha : PSs X a (tS X.K fA cA W fa)) (hb : PSs X b (tS X.K fA cA W fb)) :
    PS X (.If ec a b pos) (tS X.K fA cA W fun ρ => (t ρ).bind fun r => match r with | true => fa ρ | false => fb ρ) :=
  (ps_if hc ha hb).imp fun D σ H q => by
    obtain ⟨B, ρ, ⟨G, O, fr⟩, hw⟩ := q
    refine stepT fr hw fun d hd H1 fr1 => ite_of ?_
    cases d with
    | true => exact ⟨B, ρ, ⟨G, O, fr1⟩, hd⟩
    | false => exact ⟨B, ρ, ⟨G, O, fr1⟩, hd⟩
theorem s_while {b : List Stmt} {fb : Env → M Flow} {n : Nat} (hp : PassesOwn (model X.prog X.w) X.A X.env X.xe) (hc : PT X ec (tT X.K fA cA W t)) (hb : PSs X b (tS X.K fA cA W fb)) :
    PS X (.While ec b [] pos) (tS X.K fA cA W fun ρ => whileGo t fb n ρ) :=
  (ps_while hp hc hb).imp fun D σ H q => by
    obtain ⟨B, ρ, fr, hw⟩ := q
    refine ⟨fun m σ H => ∃ ρ, Fr X.K fA B ρ σ H ∧ wp (whileGo t fb m ρ) (post X.K fA B D) (postE cA W B), ⟨n, ρ, fr, hw⟩, ?_⟩
    rintro m σ H ⟨ρ, ⟨G, O, fr⟩, hw⟩
    cases m with
    | zero => exact hw.elim
    | succ m =>
      replace hw : wp ((t ρ).bind fun b => match b with
        | true => (fb ρ).bind fun fl => match fl with
          | .nx ρ' => whileGo t fb m ρ'
          | .rt d => .ok (.rt d)
        | false => .ok (.nx ρ)) _ _ := hw
      refine stepT fr hw fun d hd H1 fr1 => ite_of ?_
      cases d with
      | true =>
        refine ⟨fun σ' H' => ∃ ρ', Fr X.K fA B ρ' σ' H' ∧ wp (whileGo t fb m ρ') (post X.K fA B D) (postE cA W B), fun σ' H' q => ⟨m, by omega, q⟩, B, ρ, ⟨G, O, fr1⟩, wp_mono (wp_bind hd) (fun fl h => ?_) (fun _ z => z)⟩
        cases fl with
        | nx ρ' => exact fun σ' H' fr' => ⟨ρ', fr', h⟩
        | rt d => exact h
      | false => exact hd σ H1 ⟨G, O, fr1⟩
theorem FrW.frozen {K : PySem.W.Frag} {B : Base} {G O : Addr → Prop} {ρ : Env} {σ : L2.St} {H : Hp} (f : FrW K fA B G O ρ σ H) : FrW K fA { B with V := hide H O } G O ρ σ H :=
  ⟨f.w, f.fit, f.g0, f.o0, f.gnew, f.onew, f.ext, same_show, fun b o h => (hide_some.mp h).1, f.acc, f.inj⟩
theorem FrW.thaw {K : PySem.W.Frag} {B : Base} {G O : Addr → Prop} {ρ : Env} {σ : L2.St} {H V : Hp} (f : FrW K fA { B with V := V } G O ρ σ H) (h : Same B.V V) : FrW K fA B G O ρ σ H :=
  ⟨f.w, f.fit, f.g0, f.o0, f.gnew, f.onew, f.ext, fun b o q => f.hv b o (h b o q), fun b o q => f.hvO b o (h b o q), f.acc, f.inj⟩
theorem s_for {tge iter : PySem.Expr} {tg : Tg} {b : List Stmt} {fb : Env → M Flow} {fi : Env → M (List PyData)} (hp : PassesOwn (model X.prog X.w) X.A X.env X.xe) (hc : X.calm = true) (hset : notSet iter = true) (hi : PI X tge iter (tI X.K fA cA W fi)) (hg : PG X tge (tG X.K fA tg)) (hb : PSs X b (tS X.K fA cA W fb)) :
    PS X (.For tge iter b [] pos) (tS X.K fA cA W fun ρ => (fi ρ).bind fun ys => forGo (fun x ρ' => (assign tg x ρ').bind fun ρ'' => fb ρ'') ys ρ) :=
  (ps_for hp hc hi hg hb (by intro x; cases iter <;> first | rfl | cases hset)).imp fun D σ H q => by
    obtain ⟨B, ρ, ⟨G, O, fr⟩, hw⟩ := q
    refine ⟨G, O, ρ, fr.w, fr.fit, wp_mono (wp_bind hw) (fun ds hd J H1 x1 wk => ?_) (fun c h H' x => h σ H' (fr.step x).ext)⟩
    have fr1 := fr.step x1
    have sV : Same B.V (hide H1 O) := fun b o h => hide_some.mpr ⟨fr1.hvO b o h, fr1.hv b o h⟩
    generalize hfx : (fun x ρ' => (assign tg x ρ').bind fun ρ'' => fb ρ'') = fx at hd
    refine ⟨fun i m σ Hh => m = ds.length - i ∧ i ≤ ds.length ∧ ∃ ρ', Fr X.K fA { B with V := hide H1 O } ρ' σ Hh ∧ wp (forGo fx (ds.drop i) ρ') (post X.K fA B D) (postE cA W B),
      ⟨ds.length, rfl, Nat.zero_le _, ρ, ⟨G, O, fr1.frozen⟩, hd⟩, ?_⟩
    rintro i m σ' Hh ⟨rfl, hi', ρ', ⟨G', O', fr'⟩, hgo⟩
    by_cases hlt : i < ds.length
    · obtain ⟨d, hd⟩ : ∃ d, ds[i]? = some d := ⟨ds[i], by simp [hlt]⟩
      have edrop : ds.drop i = d :: ds.drop (i + 1) := by
        rw [List.drop_eq_getElem_cons hlt]
        congr 1
        have := List.getElem?_eq_getElem hlt
        rw [hd] at this
        exact (Option.some.inj this).symm
      rw [edrop] at hgo
      replace hgo : wp ((fx d ρ').bind fun fl => match fl with
        | .nx ρ' => forGo fx (ds.drop (i + 1)) ρ'
        | .rt d => .ok (.rt d)) _ _ := hgo
      refine .inr ⟨wk.go i d Hh hd fr'.hv, fun σ2 H2 => i + 1 ≤ ds.length ∧ ∃ ρ', Fr X.K fA { B with V := hide H1 O } ρ' σ2 H2 ∧ wp (forGo fx (ds.drop (i + 1)) ρ') (post X.K fA B D) (postE cA W B),
        fun σ2 H2 hn => ⟨ds.length - (i + 1), by omega, rfl, hn⟩, fun x H' hy => ?_⟩
      have item : Ext G' Hh H' ∧ Dp X.K (hide H' O') x d := by
        have sm : Same (hide H1 O) (hide Hh O') := fun b o hb => hide_some.mpr ⟨fr'.hvO b o hb, fr'.hv b o hb⟩
        rcases wk.yl i d Hh x H' hd fr'.hv hy with ⟨rfl, h⟩ | ⟨T, vs, es, hT, rfl, rfl, rfl, h⟩
        · exact ⟨Ext.refl fr'.w, Dp.same sm h⟩
        · exact ⟨Ext.new fr'.w hT, dp_newT fr'.w hT (DpAll.same sm h)⟩
      obtain ⟨xi, hdx⟩ := item
      have fr2 := fr'.step xi
      have h2 := wp_bind hgo
      rw [← hfx] at h2
      have h3 := assign_asd tg d ρ' (wp_bind h2)
      refine ⟨G', O', ρ', d, _, fr2.w, fr2.fit, hdx, wp_mono h3 (fun ρ2 ⟨h4, a4⟩ σ2 f4 o4 => ?_) (fun _ z => z)⟩
      refine ⟨{ B with V := hide H1 O }, ρ2, ⟨G', O', fr2.asd f4 a4 o4⟩, wp_mono h4 (fun fl h => ?_) (fun _ z => z)⟩
      cases fl with
      | nx ρ3 => exact fun σ3 H3 fr3 => ⟨hlt, ρ3, fr3, by rw [hfx] at h; exact h⟩
      | rt d => exact h
    · have e : i = ds.length := by omega
      subst e
      rw [List.drop_length] at hgo
      exact .inl ⟨wk.stop Hh fr'.hv, hgo σ' Hh ⟨G', O', fr'.thaw sV⟩⟩
theorem s_never {st : Stmt} : PS X st (tS X.K fA cA W fun _ => .no) := ⟨fun pins s σ H D I q => by
  obtain ⟨B, ρ, fr, hw⟩ := q
  exact hw.elim⟩
end
end Ev
end

section
set_option Elab.async false
set_option linter.all false
set_option maxRecDepth 100000
set_option maxHeartbeats 4000000
namespace Ev
open PySem L2
/-! ## Does a compiled statement stand for this one -/
def starry : PySem.Expr → Bool
  | .Starred .. => true
  | _ => false
def swapNames (sc : Scope) (ts : List PySem.Expr) : List Str := ts.filterMap fun
    | .Name id pos => if sc.names.lookup id == some .local && pos.line == (ts.head?.map (·.pos.line)).getD 0 then some id else none
    | _ => none
def swapNone (sc : Scope) (ts vs : List PySem.Expr) : Bool :=
  (!(ts.length == 2 || ts.length == 3) || vs.length != ts.length) || vs.any starry || ((swapNames sc ts).length != ts.length || (swapNames sc ts).eraseDups.length != (swapNames sc ts).length) || vs.all (foldedForSure 8)
theorem starry_eq (vs : List PySem.Expr) : (vs.any fun | .Starred .. => true | _ => false) = vs.any starry := by
  congr 1
theorem swap_none {env : PySem.Env} {ts vs : List PySem.Expr} {k k2 : Nat} {p p2 : Pos} (hk : env.scope.kind = .function) (h : swapNone env.scope ts vs = true) :
    swappedStores [.Tuple ts k p] (.Tuple vs k2 p2) env = pure none := by
  have hb : env.blockKind = .function := by unfold Env.blockKind; rw [hk]; rfl
  have hb2 : (env.blockKind != ScopeKind.function) = false := by rw [hb]; rfl
  unfold swappedStores
  simp only [hb2, Bool.or_false]
  split
  · rfl
  rename_i c1
  split
  · rfl
  rename_i c2
  split
  · rfl
  rename_i c3
  split
  · rfl
  rename_i c4
  exfalso
  unfold swapNone at h
  simp only [Bool.or_eq_true] at h
  rcases h with ((h | h) | h) | h
  · exact c1 (by simpa using h)
  · exact c2 h
  · refine c3 ?_
    have h' : ((swapNames env.scope ts).length != ts.length || (swapNames env.scope ts).eraseDups.length != (swapNames env.scope ts).length) = true := by simpa only [Bool.or_eq_true] using h
    exact h'
  · exact c4 h
theorem swap_some {env : PySem.Env} {ts vs : List PySem.Expr} {k k2 : Nat} {p p2 : Pos} (hk : env.scope.kind = .function) (h : swapNone env.scope ts vs = false) (hc : vs.all (constantsAlone 8) = false) :
    swappedStores [.Tuple ts k p] (.Tuple vs k2 p2) env = pure (some (swapNames env.scope ts)) := by
  have hb : env.blockKind = .function := by unfold Env.blockKind; rw [hk]; rfl
  have hb2 : (env.blockKind != ScopeKind.function) = false := by rw [hb]; rfl
  unfold swapNone at h
  simp only [Bool.or_eq_false_iff] at h
  obtain ⟨⟨⟨⟨h1, h1'⟩, h2⟩, ⟨h3, h3'⟩⟩, h4⟩ := h
  unfold swappedStores
  simp only [hb2, Bool.or_false]
  have e1 : (!(ts.length == 2 || ts.length == 3) || vs.length != ts.length) = false := by rw [h1, h1']; rfl
  have e3 : ((swapNames env.scope ts).length != ts.length || (swapNames env.scope ts).eraseDups.length != (swapNames env.scope ts).length) = false := by rw [h3, h3']; rfl
  split
  · rename_i c; rw [e1] at c; cases c
  split
  · rename_i c; exact absurd (show vs.any starry = true from c) (by rw [h2]; simp)
  split
  · rename_i c; exact absurd (show ((swapNames env.scope ts).length != ts.length || (swapNames env.scope ts).eraseDups.length != (swapNames env.scope ts).length) = true from c) (by rw [e3]; simp)
  split
  · rename_i c; rw [h4] at c; cases c
  split
  · rename_i c; rw [hc] at c; cases c
  rfl

def isComp : PySem.Expr → Bool
  | .ListComp .. => true
  | .SetComp .. => true
  | .DictComp .. => true
  | _ => false
def swapC (sc : Scope) (x : Str) (p : Pos) (s : Scope) (p2 : Pos) : Bool := decide (sc.names.lookup x = some .local) && (p.line == p2.line) && !(s.names.any fun (n, k) => n == x && (k == .local || k == .cell))
def compSwap (sc : Scope) (x : Str) (p : Pos) : PySem.Expr → Bool
  | .ListComp _ _ s p2 => true
  | .SetComp .. => false
  | .DictComp .. => false
  | _ => true
theorem sw_false {elt : PySem.Expr} {gs : List Comprehension} {scope : Scope} {pos py : Pos} {y : Str} {l : Nat} {env : PySem.Env} (h : swapC env.scope y py scope pos = false) : swapsWith (.ListComp elt gs scope pos) (some (.Name y py)) l env = pure false := by
  have e : swapsWith (.ListComp elt gs scope pos) (some (.Name y py)) l env = pure (env.blockKind == .function && env.kindOf y == some .local && py.line == pos.line && !(scope.names.any fun (n, k) => n == y && (k == .local || k == .cell))) := rfl
  rw [e]
  unfold swapC at h
  have e2 : (env.kindOf y == some .local) = decide (env.scope.names.lookup y = some .local) := by
    show (env.scope.names.lookup y == some .local) = _
    rw [Bool.beq_eq_decide_eq]
  rw [e2, Bool.and_assoc, Bool.and_assoc, ← Bool.and_assoc (decide _), h, Bool.and_false]
theorem swaps_no {e : PySem.Expr} {t : Option PySem.Expr} {l : Nat} {env : PySem.Env} (h : isComp e = false) : swapsWith e t l env = pure false := by
  cases e <;> first | rfl | cases h
theorem swaps_tup {e : PySem.Expr} {ts : List PySem.Expr} {k l : Nat} {p : Pos} {env : PySem.Env} : swapsWithSole [.Tuple ts k p] e l env = pure false := by
  cases e <;> rfl
def swapsB (sc : Scope) (ts : List PySem.Expr) : PySem.Expr → Bool
  | .Tuple vs _ _ => swapNone sc ts vs
  | _ => true
theorem swapped_none {env : PySem.Env} {ts : List PySem.Expr} {k : Nat} {p : Pos} {e : PySem.Expr} (hk : env.scope.kind = .function) (h : swapsB env.scope ts e = true) : swappedStores [.Tuple ts k p] e env = pure none := by
  cases e with
  | Tuple vs k2 p2 => exact swap_none hk h
  | _ => rfl
def isFunB (sc : Scope) : Bool := match sc.kind with
  | .function => true
  | _ => false
theorem isFun_of {sc : Scope} (h : isFunB sc = true) : sc.kind = .function := by
  unfold isFunB at h
  split at h
  · assumption
  · cases h
section
variable (N : List Str) (fn dn : Nat → Option Str) (sc : Scope)
def locOk (i : Nat) (x : Str) : Bool := nameOk N i x && decide (sc.names.lookup x = some .local)
mutual
def okS : S → Stmt → Bool
  | .asg tg e, st => match tg, st with
    | .name i, .Assign [.Name x p] ee _ => nameOk N i x && locB sc sc x && okE N fn sc e ee && compSwap sc x p ee
    | .name _, _ => false
    | tg, .Assign [.Tuple ts k p] ee _ => okTg N sc sc tg (.Tuple ts k p) && okE N fn sc e ee && swapsB sc ts ee
    | _, _ => false
  | .par2 i j a b, st => match st with
    | .Assign [.Tuple [.Name x px, .Name y py] _ _] (.Tuple [ea, eb] _ _) _ => decide (i ≠ j) && locOk N sc i x && locOk N sc j y && !swapNone sc [.Name x px, .Name y py] [ea, eb] && !([ea, eb].all (constantsAlone 8)) && decide (swapNames sc [.Name x px, .Name y py] = [x, y]) && okE N fn sc a ea && okE N fn sc b eb && nostar ea && nostar eb
    | _ => false
  | .par3 i j k a b c, st => match st with
    | .Assign [.Tuple [.Name x px, .Name y py, .Name z pz] _ _] (.Tuple [ea, eb, ec] _ _) _ => decide (i ≠ j) && decide (i ≠ k) && decide (j ≠ k) && locOk N sc i x && locOk N sc j y && locOk N sc k z && !swapNone sc [.Name x px, .Name y py, .Name z pz] [ea, eb, ec] && !([ea, eb, ec].all (constantsAlone 8)) &&
      decide (swapNames sc [.Name x px, .Name y py, .Name z pz] = [x, y, z]) && okE N fn sc a ea && okE N fn sc b eb && okE N fn sc c ec && nostar ea && nostar eb && nostar ec
    | _ => false
  | .drum i f es, st => match st with
    | .Assign [.Name x _] (.Call (.Name y _) (a :: as) [] _) _ => nameOk N i x && locB sc sc x && globB sc y && decide (dn f = some y) && okEs N fn sc es (a :: as) && allNostar (a :: as)
    | _ => false
  | .expr e, st => match st with
    | .Expr ee _ => okE N fn sc e ee && !isComp ee
    | _ => false
  | .ret e, st => match st with
    | .Return (some ee) _ => okE N fn sc e ee
    | _ => false
  | .ifs t a b, st => match st with
    | .If et ea eb _ => okE N fn sc t et && okSs a ea && okSs b eb
    | _ => false
  | .whil _ t b, st => match st with
    | .While et eb [] _ => okE N fn sc t et && okSs b eb
    | _ => false
  | .fors tg it b, st => match st with
    | .For etg eit eb [] _ => okTg N sc sc tg etg && okI N fn sc it eit && notSet eit && okSs b eb
    | _ => false
  | .raise, _ => true
def okSs : Ss → List Stmt → Bool
  | .nil, sts => match sts with
    | [] => true
    | _ => false
  | .cons s ss, sts => match sts with
    | st :: sts => okS s st && okSs ss sts
    | _ => false
end
end
section
variable {N : List Str} {fn dn : Nat → Option Str} {fA cA : Nat → Addr} {F : Nat → List D → M D} {L : Nat} {sc : Scope} {X : Cx} {W : WX}
theorem loc_of {x : Str} (g : Good N fn dn fA cA F L X sc sc W) (h : locB sc sc x = true) : Loc X.env.scope x ∧ (X.fn x = true ∨ X.env.scope.names.lookup x = some .local) := by
  rw [g.hsc]
  unfold locB at h
  split at h
  · rename_i e; exact ⟨.inl e, .inr e⟩
  · rename_i e
    simp only [decide_eq_true_eq] at h
    exact ⟨.inr e, .inl (g.fnx x h)⟩
  · cases h
theorem s_drum {ea : PySem.Expr} {es : List PySem.Expr} {i f : Nat} {x y : Str} {p p2 p3 pos : Pos} {fs : Env → M (List D)} (ff : DrumFact fA F L X f y) (hr : Room L X.A) (tk : Takes X W) (hg : Gl X y) (hd : (y == ("__debug__" : Str)) = false) (hs : allNostar (ea :: es) = true) (ha : PA X (ea :: es) (tAr X.K fA cA W fs))
    (hN : X.N.Nodup) (hi : X.N[i]? = some x) (hx : Loc X.env.scope x) (hf : X.fn x = true ∨ X.env.scope.names.lookup x = some .local) :
    PS X (.Assign [.Name x p] (.Call (.Name y p2) (ea :: es) [] p3) pos) (tS X.K fA cA W fun ρ => (fs ρ).bind fun ds => (isKeg (F f ds)).bind fun _ => .ok (.nx (ρ.set i (some .keg)))) := by
  obtain ⟨fd, ps, hl, hb, ok⟩ := ff.ok
  have hs' := hs
  unfold allNostar at hs'
  simp only [Bool.and_eq_true] at hs'
  refine (ps_set hN hi hx (pe_callS ok hr hg ff.mg ff.keep hb (fun σ => passAt tk σ) ha hd (star_cons hs'.1) (back_any hs'.2)) (swaps_no rfl) hf).imp fun D σ H q => ?_
  obtain ⟨B, ρ, ⟨G, O, fr⟩, hw⟩ := q
  refine stepA fr hw fun ds he vs H1 fr1 r => ?_
  have hk : F f ds = .ok .keg ∧ post X.K fA B D (.nx (ρ.set i (some .keg))) := by
    have h2 := wp_bind he
    cases e : F f ds with
    | ok d =>
      rw [e] at h2
      cases d with
      | keg => exact ⟨rfl, h2⟩
      | dat _ => exact h2.elim
      | fn _ => exact h2.elim
      | acc _ => exact h2.elim
    | no => rw [e] at h2; exact h2.elim
    | exc _ => rw [e] at h2; exact h2.elim
    | roll _ _ => rw [e] at h2; exact h2.elim
  refine ⟨by rw [r.length]; exact hl ds hk.1, G, O, ds, fr1.w, r, hk.1, fun p H' hp hsm hkeg => ?_⟩
  refine hk.2 _ H' ⟨fun a => G a ∨ a = p, fun a => O a ∨ a = p, ?_⟩
  have nO : ¬ O p := fr1.w.fresh hp
  have nB : B.H p = none := by
    cases e : B.H p with
    | none => rfl
    | some o =>
      by_cases gp : B.G p
      · exact absurd hp (fr1.w.dom p (fr1.w.sub p (fr1.g0 p gp)))
      · rw [fr1.ext.same p o e gp] at hp; cases hp
  have sh : Same (hide H1 O) (hide H' fun a => O a ∨ a = p) := fun b o h => by
    obtain ⟨n, e⟩ := hide_some.mp h
    refine hide_some.mpr ⟨fun z => ?_, hsm b o e⟩
    rcases z with z | z
    · exact n z
    · subst z; rw [hp] at e; cases e
  have kg : ∀ a, G a → KegAt H' a := fun a ga => by
    obtain ⟨g, k, h, r⟩ := fr1.w.keg a ga
    exact ⟨g, k, hsm a _ h, r⟩
  have fr2 : FrW X.K fA B (fun a => G a ∨ a = p) (fun a => O a ∨ a = p) ρ σ H' := {
    w := ⟨fun a ga => ga.elim (fun z => .inl (fr1.w.sub a z)) .inr, fun a ha => (by
        rcases ha with z | z
        · cases e : H1 a with
          | none => exact absurd e (fr1.w.dom a z)
          | some o => rw [hsm a o e]; simp
        · subst z; exact hkeg.ne), fun a ga => ga.elim (fun z => kg a z) (fun z => by subst z; exact hkeg)⟩
    fit := by
      have f2 := fr1.fit.view sh
      refine ⟨f2.len, fun j d h => ?_⟩
      rcases f2.val j d h with z | ⟨v, h1, h2⟩
      · exact .inl z
      · refine .inr ⟨v, h1, ?_⟩
        cases d with
        | dat _ => exact h2
        | fn _ => exact h2
        | acc _ => exact h2
        | keg => obtain ⟨a, e, ga⟩ := h2; exact ⟨a, e, .inl ga⟩
    g0 := fun a ga => .inl (fr1.g0 a ga)
    o0 := fun a ga => .inl (fr1.o0 a ga)
    gnew := fun a ga ng => ga.elim (fun z => fr1.gnew a z ng) (fun z => by subst z; exact nB)
    onew := fun a ga ng => ga.elim (fun z => fr1.onew a z ng) (fun z => by subst z; exact nB)
    ext := ⟨fun b o h n => hsm b o (fr1.ext.same b o h n), fun a ga => kg a (fr1.g0 a ga)⟩
    hv := fun b o h => hsm b o (fr1.hv b o h)
    hvO := fun b o h z => z.elim (fun z => fr1.hvO b o h z) (fun z => by subst z; have := fr1.hv b o h; rw [hp] at this; cases this)
    acc := fun j xs h => by
      obtain ⟨q, us, h1, h2, h3, h4, h5, h6⟩ := fr1.acc j xs h
      exact ⟨q, us, h1, .inl h2, h3, fun z => z.elim h4 (fun z => by subst z; exact nO h2), hsm q _ h5, DpAll.same sh h6⟩
    inj := fr1.inj }
  exact fr2.set (d := .keg) ⟨p, rfl, .inr rfl⟩
mutual
theorem sS (hk : isFunB sc = true) (g : Good N fn dn fA cA F L X sc sc W) : ∀ (s : S) (st : Stmt), okS N fn dn sc s st = true → PS X st (tS X.K fA cA W (xs F s))
  | .asg tg e, st, h => by
    unfold okS at h
    split at h
    · rename_i i x p ee pos
      simp only [Bool.and_eq_true] at h
      obtain ⟨⟨⟨h0, hl⟩, h1⟩, h2⟩ := h
      obtain ⟨n1, n2, n3⟩ := name_of h0
      rw [← g.hN] at n1
      obtain ⟨l1, l2⟩ := loc_of g hl
      by_cases hc : isComp ee = true
      · cases ee <;> first | cases hc | skip
        · rename_i eelt gens scope p2
          by_cases hsw : swapC sc x p scope p2 = true
          rotate_left
          · exact s_name g.nd n1 l1 l2 (sw_false (by rw [g.hsc]; simpa using hsw)) (sE e h1 g)
          unfold swapC at hsw
          simp only [Bool.and_eq_true, decide_eq_true_eq, Bool.not_eq_true'] at hsw
          obtain ⟨⟨y1, y2⟩, y3⟩ := hsw
          cases e <;> first | (unfold okE at h1; cases h1) | skip
          rename_i own tg it cond elt
          unfold okE at h1
          split at h1
          · rename_i eelt' etg eit eifs as scope' pos' heq
            cases heq
            simp only [Bool.and_eq_true, decide_eq_true_eq] at h1
            obtain ⟨⟨⟨⟨⟨⟨⟨h0', hset⟩, hss⟩, hblk⟩, htg⟩, hit⟩, hcond⟩, helt⟩ := h1
            subst h0'
            have hb : BlkOk X.N X.env.scope scope (ownOf N own) := by rw [g.hN, g.hsc]; exact blkOk_by hblk
            have y1' : X.env.scope.names.lookup x = some .local := by rw [g.hsc]; exact y1
            refine (s_comp (own_map own) (fun i hi => ?_) g.calm g.nd n1 y1' (sw_true (by rw [g.hsc]; exact isFun_of hk) y1' y2 y3) (sI it hit g) hb hset (fun s H C cl fp => ?_) (fun s H C cl fp => ?_) (fun s H C cl fp => ?_)).imp fun D σ H q => name_imp q
            · have := List.all_eq_true.mp hss i hi
              simpa using this
            · have gb := g.blk s H scope C cl fp
              exact sTg gb.hN gb.hsc gb.nd gb.calm gb.fnx tg etg htg
            · exact sC cond hcond (g.blk s H scope C cl fp)
            · exact sE elt helt (g.blk s H scope C cl fp)
          · cases h1
        · cases h2
        · cases h2
      · exact s_name g.nd n1 l1 l2 (swaps_no (by simpa using hc)) (sE e h1 g)
    · cases h
    · rename_i hn
      simp only [Bool.and_eq_true] at h
      obtain ⟨⟨h0, h1⟩, h2⟩ := h
      exact s_tup (fun i z => by subst z; simp at hn) swaps_tup (swapped_none (by rw [g.hsc]; exact isFun_of hk) (by rw [g.hsc]; exact h2)) rfl (sE e h1 g) (sTg g.hN g.hsc g.nd g.calm g.fnx tg _ h0)
    · cases h
  | .par2 i j a b, st, h => by
    unfold okS at h
    split at h
    · simp only [Bool.and_eq_true, decide_eq_true_eq, Bool.not_eq_true'] at h
      obtain ⟨⟨⟨⟨⟨⟨⟨⟨⟨hij, hx⟩, hy⟩, hs1⟩, hs2⟩, hs3⟩, h1⟩, h2⟩, h3⟩, h4⟩ := h
      unfold locOk at hx hy
      simp only [Bool.and_eq_true, decide_eq_true_eq] at hx hy
      refine s_par2 (fun ha => ps_par g.calm g.nd (by rw [g.hN]; exact (name_of hx.1).1) (by rw [g.hN]; exact (name_of hy.1).1) hij (by rw [g.hsc]; exact hx.2) (by rw [g.hsc]; exact hy.2) ha ?_ rfl) h3 h4 (sE a h1 g) (sE b h2 g)
      rw [swap_some (by rw [g.hsc]; exact isFun_of hk) (by rw [g.hsc]; exact hs1) hs2, g.hsc, hs3]
    · cases h
  | .par3 i j k a b c, st, h => by
    unfold okS at h
    split at h
    · simp only [Bool.and_eq_true, decide_eq_true_eq, Bool.not_eq_true'] at h
      obtain ⟨⟨⟨⟨⟨⟨⟨⟨⟨⟨⟨⟨⟨⟨hij, hik⟩, hjk⟩, hx⟩, hy⟩, hz⟩, hs1⟩, hs2⟩, hs3⟩, h1⟩, h2⟩, h3⟩, h4⟩, h5⟩, h6⟩ := h
      unfold locOk at hx hy hz
      simp only [Bool.and_eq_true, decide_eq_true_eq] at hx hy hz
      refine s_par3 (fun ha => ps_par3 g.calm g.nd (by rw [g.hN]; exact (name_of hx.1).1) (by rw [g.hN]; exact (name_of hy.1).1) (by rw [g.hN]; exact (name_of hz.1).1) hij hik hjk (by rw [g.hsc]; exact hx.2) (by rw [g.hsc]; exact hy.2) (by rw [g.hsc]; exact hz.2) ha ?_ rfl) h4 h5 h6 (sE a h1 g) (sE b h2 g) (sE c h3 g)
      rw [swap_some (by rw [g.hsc]; exact isFun_of hk) (by rw [g.hsc]; exact hs1) hs2, g.hsc, hs3]
    · cases h
  | .drum i f es, st, h => by
    unfold okS at h
    split at h
    · simp only [Bool.and_eq_true, decide_eq_true_eq] at h
      obtain ⟨⟨⟨⟨⟨h0, hl⟩, h1⟩, h2⟩, h3⟩, h4⟩ := h
      obtain ⟨n1, n2, n3⟩ := name_of h0
      rw [← g.hN] at n1
      obtain ⟨l1, l2⟩ := loc_of g hl
      obtain ⟨hg, hd⟩ := g.gl h1
      exact s_drum (g.drums f _ h2) g.room g.takes hg hd h4 (sEs es h3 h4 g) g.nd n1 l1 l2
    · cases h
  | .expr e, st, h => by
    unfold okS at h
    split at h
    · simp only [Bool.and_eq_true, Bool.not_eq_true'] at h
      exact s_expr (swaps_no h.2) (sE e h.1 g)
    · cases h
  | .ret e, st, h => by
    unfold okS at h
    split at h
    · exact s_ret (sE e h g)
    · cases h
  | .ifs t a b, st, h => by
    unfold okS at h
    split at h
    · simp only [Bool.and_eq_true] at h
      exact s_if (sT t h.1.1 g) (sSs hk g a _ h.1.2) (sSs hk g b _ h.2)
    · cases h
  | .whil n t b, st, h => by
    unfold okS at h
    split at h
    · simp only [Bool.and_eq_true] at h
      exact s_while g.pass (sT t h.1 g) (sSs hk g b _ h.2)
    · cases h
  | .fors tg it b, st, h => by
    unfold okS at h
    split at h
    · simp only [Bool.and_eq_true] at h
      exact s_for g.pass g.calm h.1.2 (sI it h.1.1.2 g) (sTg g.hN g.hsc g.nd g.calm g.fnx tg _ h.1.1.1) (sSs hk g b _ h.2)
    · cases h
  | .raise, st, h => s_never
theorem sSs (hk : isFunB sc = true) (g : Good N fn dn fA cA F L X sc sc W) : ∀ (s : Ss) (st : List Stmt), okSs N fn dn sc s st = true → PSs X st (tS X.K fA cA W (xss F s))
  | .nil, st, h => by
    unfold okSs at h
    split at h
    · exact ss_nil
    · cases h
  | .cons s ss, st, h => by
    unfold okSs at h
    split at h
    · simp only [Bool.and_eq_true] at h
      exact ss_cons (sS hk g s _ h.1) (sSs hk g ss _ h.2)
    · cases h
end
end
end Ev
end

section
set_option Elab.async false
set_option linter.all false
set_option maxRecDepth 100000
set_option maxHeartbeats 4000000
namespace Ev
open PySem L2
/-! ## Defs -/
section
variable {P : Program} {w : World} {K : PySem.W.Frag} {mg : Str → Option Value} {base : Heap} {fA cA : Nat → Addr} {F : Nat → List D → M D} {L : Nat}
variable (P w K mg base fA cA)
structure FnK (L : Nat) (F : Nat → List D → M D) (i : Nat) (x : Str) : Prop where
  mgx : mg x = some (.ref (fA i))
  keep : PySem.W.keepIn K (.ref (fA i)) = true
  ok : ∃ fd ps, (∀ ds Q E, wp (F i ds) Q E → ds.length = ps.length) ∧ Binds K fd ps [] ∧ FnOk P w K mg base (L2.CX P w) L (fA i) fd ps (spM K fA cA ps.length (F i))
structure DrK (L : Nat) (F : Nat → List D → M D) (i : Nat) (x : Str) : Prop where
  mgx : mg x = some (.ref (fA i))
  keep : PySem.W.keepIn K (.ref (fA i)) = true
  ok : ∃ fd ps, (∀ ds, F i ds = .ok .keg → ds.length = ps.length) ∧ Binds K fd ps [] ∧ FnOk P w K mg base (L2.CX P w) L (fA i) fd ps (spDrum fA K ps.length (F i))
variable {P w K mg base fA cA}
theorem reps_get {G O : Addr → Prop} {H : Hp} : ∀ {vs : List V} {ds : List D} {i : Nat} {d : D}, Reps K fA G O H vs ds → ds[i]? = some d → ∃ v, vs[i]? = some v ∧ Rep K fA G O H v d
  | [], [], i, d, _, e => by simp at e
  | v :: vs, d' :: ds, 0, d, r, e => by simp at e; subst e; exact ⟨v, rfl, r.1⟩
  | v :: vs, d' :: ds, i + 1, d, r, e => by
    obtain ⟨u, h1, h2⟩ := reps_get (i := i) r.2 (by simpa using e)
    exact ⟨u, by simpa using h1, h2⟩
  | [], _ :: _, _, _, r, _ => r.elim
  | _ :: _, [], _, _, r, _ => r.elim
theorem start_env {ds : List D} {n i : Nat} {d : D} (h : (ds.map some ++ List.replicate n none : Env)[i]? = some (some d)) : ds[i]? = some d := by
  by_cases hi : i < ds.length
  · rw [List.getElem?_append_left (by simpa using hi), List.getElem?_map] at h
    cases e : ds[i]? with
    | none => rw [e] at h; cases h
    | some x => rw [e] at h; cases h; rfl
  · rw [List.getElem?_append_right (by simpa using hi), List.getElem?_replicate] at h
    split at h <;> cases h
theorem start_fit {G O : Addr → Prop} {H : Hp} {vs : List V} {ds : List D} {N : List Str} {n : Nat} (hn : n = N.length) (r : Reps K fA G O H vs ds) : Fit K fA G O (ds.map some ++ List.replicate (n - ds.length) none) (L2.start N vs) H := by
  have hl := r.length
  refine ⟨by unfold L2.start; simp [hl, hn], fun i d h => ?_⟩
  obtain ⟨v, h1, h2⟩ := reps_get r (start_env h)
  refine .inr ⟨v, ?_, h2⟩
  unfold L2.start
  rw [List.getElem?_append_left (by simpa using (List.getElem?_eq_some_iff.mp h1).1), List.getElem?_map, h1]
  rfl
theorem reps_noacc {G O : Addr → Prop} {H : Hp} {vs : List V} {ds : List D} {i : Nat} {xs : List PyData} (r : Reps K fA G O H vs ds) (h : ds[i]? = some (.acc xs)) : False := by
  obtain ⟨v, _, h2⟩ := reps_get r h
  exact h2
theorem start_fr {G O : Addr → Prop} {H : Hp} {vs : List V} {ds : List D} {N : List Str} {n : Nat} (hn : n = N.length) (w : WOk G O H) (r : Reps K fA G O H vs ds) : Fr K fA ⟨G, O, H, hide H O⟩ (ds.map some ++ List.replicate (n - ds.length) none) (L2.start N vs) H :=
  ⟨G, O, w, start_fit hn r, fun _ h => h, fun _ h => h, fun _ h n => absurd h n, fun _ h n => absurd h n, Ext.refl w, same_show, fun b o h => (hide_some.mp h).1,
    fun i xs h => (reps_noacc r (start_env h)).elim, fun i j xs ys p h => (reps_noacc r (start_env h)).elim⟩
/-- a def of the text keeps what its compiled form says -/
theorem df_ok {x qual : Str} {st : Stmt} {f : Addr} {fd : FuncData} {N ps : List Str} {fn dn : Nat → Option Str} {d : Df} (Fu : FunD K x qual (defArgs st) (defBody st) (defScope st) [] [] f fd) (S : FnScope N ps (defScope st)) (hs : d.slots = N.length) (hp : d.pars = ps.length)
    (hok : okSs N fn dn (defScope st) d.body (defBody st) = true) (funs : ∀ i x, fn i = some x → FnK P w K mg base fA cA L F i x) (drums : ∀ i x, dn i = some x → DrK P w K mg base fA L F i x) (blts : ∀ x, x ∈ bltNames → mg x = none) :
    FnOk P w K mg base (L2.CX P w) (L + 1) f fd ps (spM K fA cA ps.length (run F d)) := by
  have hk : isFunB (defScope st) = true := by unfold isFunB; rw [S.kind]
  refine Fu.ok S (fun vs H Q E h => h.1) fun cdv A outer s H vs Q E hr h => ?_
  obtain ⟨hl, G, O, ds, wk, r, hw⟩ := h
  have g : Good N fn dn fA cA F L (cxOf (L2.CX P w) P w K mg base N qual (defScope st) f cdv A outer s H E) (defScope st) (defScope st) (fun cls d _ H => E cls d H) :=
    { hN := rfl, hsc := rfl, nd := S.nd, calm := rfl, takes := takes_of rfl rfl rfl rfl, pass := passes_of rfl, room := hr, fnx := fun _ _ => rfl,
      funs := fun i x h => ⟨(funs i x h).mgx, (funs i x h).keep, (funs i x h).ok⟩, drums := fun i x h => ⟨(drums i x h).mgx, (drums i x h).keep, (drums i x h).ok⟩, blts := blts }
  refine ⟨tS K fA cA (fun cls d _ H => E cls d H) (xss F d.body), sSs hk g d.body _ hok, ⟨G, O, H, hide H O⟩, ds.map some ++ List.replicate (d.slots - ds.length) none, start_fr hs wk r, ?_⟩
  unfold run at hw
  split at hw
  · refine wp_mono (wp_bind hw) (fun fl q => ?_) (fun c q σ' H' x => q H' x)
    cases fl with
    | nx ρ' =>
      rintro σ' H' ⟨G', O', fr⟩
      exact q _ H' fr.ext Dp.non
    | rt d => exact fun v H' x r => q v H' x r
  · exact hw.elim
theorem run_len {d : Df} {ds : List D} {Q : D → Prop} {E : Nat → Prop} (h : wp (run F d ds) Q E) : ds.length = d.pars := by
  unfold run at h
  split at h
  · assumption
  · exact h.elim
end
/-! ## Programs -/
/-- how deep calls may go -/
def Fk (defs : Nat → Option Df) (prim : Nat → Option (List D → M D)) : Nat → Nat → List D → M D
  | 0, _, _ => .no
  | k + 1, i, ds => match prim i with
    | some f => f ds
    | none => match defs i with
      | some d => run (Fk defs prim k) d ds
      | none => .no
/-- a def of the text, known by its place -/
structure Tx (K : PySem.W.Frag) (mg : Str → Option Value) (fA : Nat → Addr) (i : Nat) (x : Str) (st : Stmt) (ps : List Str) : Prop where
  mg : mg x = some (.ref (fA i))
  ex : ∃ fd, FunD K x x (defArgs st) (defBody st) (defScope st) [] [] (fA i) fd ∧ Binds K fd ps []
section
variable {P : Program} {w : World} {K : PySem.W.Frag} {mg : Str → Option Value} {base : Heap} {fA cA : Nat → Addr}
variable {defs : Nat → Option Df} {prim : Nat → Option (List D → M D)} {fn dn : Nat → Option Str}
theorem fn_zero {fd : FuncData} {ps : List Str} {f : Addr} {sp : Sp} (h : ∀ vs H Q E, ¬ sp vs H Q E) : FnOk P w K mg base (L2.CX P w) 0 f fd ps sp :=
  ⟨fun vs H Q E q => (h vs H Q E q).elim, fun A outer s H args us vs Q E _ _ _ _ q => (h vs H Q E q).elim⟩
/-- what is known of each def: its text and its check; or, of the two that are proved by hand, their promise -/
structure Prog (P : Program) (w : World) (K : PySem.W.Frag) (mg : Str → Option Value) (base : Heap) (fA cA : Nat → Addr) (defs : Nat → Option Df) (prim : Nat → Option (List D → M D)) (fn dn : Nat → Option Str) : Prop where
  def_ : ∀ i x, fn i = some x → prim i = none → ∃ d N ps st, defs i = some d ∧ Tx K mg fA i x st ps ∧ FnScope N ps (defScope st) ∧ d.slots = N.length ∧ d.pars = ps.length ∧ okSs N fn dn (defScope st) d.body (defBody st) = true
  pri : ∀ i x f, fn i = some x → prim i = some f → mg x = some (.ref (fA i)) ∧ ∃ fd ps, PySem.W.keepIn K (.ref (fA i)) = true ∧ Binds K fd ps [] ∧ (∀ ds Q E, wp (f ds) Q E → ds.length = ps.length) ∧ FnOk P w K mg base (L2.CX P w) 1 (fA i) fd ps (spM K fA cA ps.length f)
  dru : ∀ i x, dn i = some x → ∃ f, prim i = some f ∧ mg x = some (.ref (fA i)) ∧ ∃ fd ps, PySem.W.keepIn K (.ref (fA i)) = true ∧ Binds K fd ps [] ∧ (∀ ds, f ds = .ok .keg → ds.length = ps.length) ∧ FnOk P w K mg base (L2.CX P w) 1 (fA i) fd ps (spDrum fA K ps.length f)
  blts : ∀ x, x ∈ bltNames → mg x = none
theorem Prog.all (p : Prog P w K mg base fA cA defs prim fn dn) : ∀ k, (∀ i x, fn i = some x → FnK P w K mg base fA cA k (Fk defs prim k) i x) ∧ (∀ i x, dn i = some x → DrK P w K mg base fA k (Fk defs prim k) i x) := by
  intro k
  induction k with
  | zero =>
    refine ⟨fun i x h => ?_, fun i x h => ?_⟩
    · cases e : prim i with
      | none =>
        obtain ⟨d, N, ps, st, h1, ⟨h2, fd, h3, h4⟩, _⟩ := p.def_ i x h e
        exact ⟨h2, h3.kp, fd, ps, fun ds Q E q => q.elim, h4, fn_zero fun vs H Q E q => by
          obtain ⟨_, _, _, _, _, _, z⟩ := q
          exact z⟩
      | some f =>
        obtain ⟨h2, fd, ps, h3, h4, _⟩ := p.pri i x f h e
        exact ⟨h2, h3, fd, ps, fun ds Q E q => q.elim, h4, fn_zero fun vs H Q E q => by
          obtain ⟨_, _, _, _, _, _, z⟩ := q
          exact z⟩
    · obtain ⟨f, e, h2, fd, ps, h3, h4, _⟩ := p.dru i x h
      exact ⟨h2, h3, fd, ps, (fun ds q => (nomatch q : False).elim), h4, fn_zero fun vs H Q E q => by
          obtain ⟨_, _, _, _, _, _, z, _⟩ := q
          exact nomatch z⟩
  | succ k ih =>
    refine ⟨fun i x h => ?_, fun i x h => ?_⟩
    · cases e : prim i with
      | none =>
        obtain ⟨d, N, ps, st, h1, ⟨h2, fd, h3, h4⟩, h5, h6, h7, h8⟩ := p.def_ i x h e
        have hF : Fk defs prim (k + 1) i = run (Fk defs prim k) d := by
          funext ds
          show (match prim i with | some f => f ds | none => match defs i with | some d => run (Fk defs prim k) d ds | none => .no) = _
          rw [e, h1]
        refine ⟨h2, h3.kp, fd, ps, fun ds Q E q => ?_, h4, ?_⟩
        · rw [hF] at q
          rw [run_len q, h7]
        · rw [hF]
          exact df_ok h3 h5 h6 h7 h8 ih.1 ih.2 p.blts
      | some f =>
        obtain ⟨h2, fd, ps, h3, h4, h5, h6⟩ := p.pri i x f h e
        have hF : Fk defs prim (k + 1) i = f := by
          funext ds
          show (match prim i with | some f => f ds | none => match defs i with | some d => run (Fk defs prim k) d ds | none => .no) = _
          rw [e]
        refine ⟨h2, h3, fd, ps, fun ds Q E q => ?_, h4, ?_⟩
        · rw [hF] at q
          exact h5 ds Q E q
        · rw [hF]
          exact h6.mono (by omega)
    · obtain ⟨f, e, h2, fd, ps, h3, h4, h5, h6⟩ := p.dru i x h
      have hF : Fk defs prim (k + 1) i = f := by
        funext ds
        show (match prim i with | some f => f ds | none => match defs i with | some d => run (Fk defs prim k) d ds | none => .no) = _
        rw [e]
      refine ⟨h2, h3, fd, ps, fun ds q => ?_, h4, ?_⟩
      · rw [hF] at q
        exact h5 ds q
      · rw [hF]
        exact h6.mono (by omega)
/-- the law's promise -/
def spLaw (K : PySem.W.Frag) : Sp := fun vs H Q _ => ∃ (a : Addr) (ns : List Int), vs = [.ref a] ∧ SqL K H a (ns.map V.int) ∧ ns.length ≤ 63 ∧ ∀ H', Q (.bl true) H'
theorem ints_dp {H : Hp} : ∀ ns : List Int, DpAll K H (ns.map V.int) (ns.map PyData.int)
  | [] => .nil
  | n :: ns => .cons (.int n) (ints_dp ns)
theorem Prog.law (p : Prog P w K mg base fA cA defs prim fn dn) {k i : Nat} {x : Str} (hx : fn i = some x) (hl : ∀ ns : List Int, ns.length ≤ 63 → wp (Fk defs prim k i [.dat (.list (ns.map .int))]) (fun d => d = .dat (.bool true)) (fun _ => False)) :
    ∃ fd ps, Binds K fd ps [] ∧ FnOk P w K mg base (L2.CX P w) k (fA i) fd ps (spLaw K) := by
  obtain ⟨_, _, fd, ps, h1, h2, h3⟩ := (p.all k).1 i x hx
  refine ⟨fd, ps, h2, h3.imp fun vs H Q E q => ?_⟩
  obtain ⟨a, ns, rfl, hs, hn, hq⟩ := q
  refine ⟨h1 _ _ _ (hl ns hn), fun _ => False, fun _ => False, [.dat (.list (ns.map .int))], ⟨fun _ h => h, fun _ h => h.elim, fun _ h => h.elim⟩, ⟨?_, trivial⟩, wp_mono (hl ns hn) (fun d e v H' x r => ?_) (fun _ z => z.elim)⟩
  · refine Dp.lst ?_ (ints_dp ns)
    have e : hide H (fun _ => False) = H := by funext b; unfold hide; simp
    rw [e]; exact hs
  · subst e
    have := (show Dp K _ v (.bool true) from r).bool_inv
    subst this
    exact hq H'
theorem law_sp {f : List D → M D} (hl : ∀ ns : List Int, ns.length ≤ 63 → Wp (f [.dat (.list (ns.map .int))]) (fun d => d = .dat (.bool true)) (fun _ => False)) (vs : List V) (H : Hp) (Q : VK) (E : XK) (q : spLaw K vs H Q E) : spM K fA cA 1 f vs H Q E := by
  obtain ⟨a, ns, rfl, hs, hn, hq⟩ := q
  refine ⟨rfl, fun _ => False, fun _ => False, [.dat (.list (ns.map .int))], ⟨fun _ h => h, fun _ h => h.elim, fun _ h => h.elim⟩, ⟨?_, trivial⟩, wp_mono (hl ns hn).run (fun d e v H' x r => ?_) (fun _ z => z.elim)⟩
  · refine Dp.lst ?_ (ints_dp ns)
    have e : hide H (fun _ => False) = H := by funext b; unfold hide; simp
    rw [e]; exact hs
  · subst e
    have := (show Dp K _ v (.bool true) from r).bool_inv
    subst this
    exact hq H'
/-- no error leaves: the promise holds without one -/
theorem to_cx0 {k : Nat} {f : Addr} {fd : FuncData} {ps : List Str} {sp : Sp} (h : FnOk P w K mg base (L2.CX P w) k f fd ps sp) (hE : ∀ vs H Q E E', sp vs H Q E → sp vs H Q E') : FnOk P w K mg base CX0 k f fd ps sp :=
  ⟨h.len, fun A outer s H args us vs Q E hr e0 hb r q => codeAny_mono (h.run A outer s H args us vs Q E0 hr e0 hb r (hE vs H Q E E0 q)) fun r s' z => by
    cases r with
    | ok fl => cases fl <;> exact z
    | error e =>
      obtain ⟨_, _, _, _, _, _, _, _, _, _, _, _, z⟩ := z
      exact z.elim⟩
/-! ### checks of a def -/
def fnScopeB (N ps : List Str) (sc : Scope) : Bool :=
  isFunB sc && !sc.isCoroutine && !sc.isGenerator && decide N.Nodup && decide (N.take ps.length = ps) && (ps.all fun x => match sc.names.lookup x with
    | some .local => true
    | some .cell => true
    | _ => false) && sc.names.all fun y => match y.2 with
    | .free => false
    | _ => true
theorem fnScope_of {N ps : List Str} {sc : Scope} (h : fnScopeB N ps sc = true) : FnScope N ps sc := by
  unfold fnScopeB at h
  simp only [Bool.and_eq_true, decide_eq_true_eq, Bool.not_eq_true', List.all_eq_true] at h
  obtain ⟨⟨⟨⟨⟨⟨h1, h2⟩, h3⟩, h4⟩, h5⟩, h6⟩, h7⟩ := h
  refine ⟨isFun_of h1, h2, h3, h4, h5, fun x hx => ?_, fun y hy e => ?_⟩
  · have := h6 x hx
    split at this
    · exact .inl (by assumption)
    · exact .inr (by assumption)
    · cases this
  · have := h7 y hy
    rw [e] at this
    cases this
def chk (fn dn : Nat → Option Str) (N ps : List Str) (st : Stmt) (d : Df) : Bool := fnScopeB N ps (defScope st) && Nat.beq d.slots N.length && Nat.beq d.pars ps.length && okSs N fn dn (defScope st) d.body (defBody st)
theorem chk_of {fn dn : Nat → Option Str} {N ps : List Str} {st : Stmt} {d : Df} (h : chk fn dn N ps st d = true) : FnScope N ps (defScope st) ∧ d.slots = N.length ∧ d.pars = ps.length ∧ okSs N fn dn (defScope st) d.body (defBody st) = true := by
  unfold chk at h
  simp only [Bool.and_eq_true] at h
  exact ⟨fnScope_of h.1.1.1, Nat.eq_of_beq_eq_true h.1.1.2, Nat.eq_of_beq_eq_true h.1.2, h.2⟩
end
end Ev
end

section
set_option Elab.async false
set_option linter.all false
set_option maxRecDepth 100000
set_option maxHeartbeats 2000000
namespace Ev
open PySem L2
/-! ## Reckoning with the compiled language: one row a construct -/
theorem bind_ok {α β : Type} (a : α) (f : α → M β) : (M.ok a).bind f = f a := rfl
theorem bind_roll {α β : Type} (n : Nat) (k : Nat → M α) (f : α → M β) : (M.roll n k).bind f = .roll n fun i => (k i).bind f := rfl
theorem map_ok {α β : Type} (a : α) (f : α → β) : (M.ok a).map f = .ok (f a) := rfl
theorem sure_ok {α : Type} (a : α) : (M.ok a).sure = .ok a := rfl
theorem mbl_ok (b : Bool) : mbl (.ok b) = .ok (.dat (.bool b)) := rfl
theorem asBl_b (b : Bool) : asBl (.dat (.bool b)) = .ok b := rfl
theorem asInt_i (i : Int) : asInt (.dat (.int i)) = .ok i := rfl
theorem asDat_d (x : PyData) : asDat (.dat x) = .ok (some x) := rfl
theorem getV_0d (x : PyData) (ρ : Env) : getV (some (.dat x) :: ρ) 0 = .ok (.dat x) := rfl
theorem getV_0f (x : Nat) (ρ : Env) : getV (some (.fn x) :: ρ) 0 = .ok (.fn x) := rfl
theorem getV_0k (ρ : Env) : getV (some .keg :: ρ) 0 = .ok .keg := rfl
theorem getV_s (a : Option D) (ρ : Env) (n : Nat) : getV (a :: ρ) (n + 1) = getV ρ n := rfl
theorem set_0 {α : Type} (a b : α) (ρ : List α) : (a :: ρ).set 0 b = b :: ρ := rfl
theorem set_s {α : Type} (a b : α) (ρ : List α) (n : Nat) : (a :: ρ).set (n + 1) b = a :: ρ.set n b := rfl
theorem bin_add (i j : Int) : binD .add (.dat (.int i)) (.dat (.int j)) = .ok (.dat (.int (i + j))) := rfl
theorem bin_sub (i j : Int) : binD .sub (.dat (.int i)) (.dat (.int j)) = .ok (.dat (.int (i - j))) := rfl
theorem bin_cat {xs ys : List PyData} (h : fits (xs.length + ys.length) = true) : binD .add (.dat (.list xs)) (.dat (.list ys)) = .ok (.dat (.list (xs ++ ys))) := if_pos h
theorem bin_mul {i j : Int} (h : CMulW i j) : binD .mul (.dat (.int i)) (.dat (.int j)) = .ok (.dat (.int (i * j))) := if_pos h
theorem bin_mod {i j : Int} (h : 0 < j) : binD .mod (.dat (.int i)) (.dat (.int j)) = .ok (.dat (.int (i % j))) := if_pos h
theorem bin_fdiv {i j : Int} (h : 0 < j ∧ j.natAbs.log2 < 9000) : binD .fdiv (.dat (.int i)) (.dat (.int j)) = .ok (.dat (.int (i / j))) := if_pos h
theorem bin_pow {i j : Int} (h : 0 ≤ j ∧ j ≤ 1000000 ∧ i.natAbs < 2 ^ 64) : binD .pow (.dat (.int i)) (.dat (.int j)) = .ok (.dat (.int (i ^ j.toNat))) := if_pos h
theorem cmp_eq (i j : Int) : cmpD .eq (.dat (.int i)) (.dat (.int j)) = .ok (decide (i = j)) := rfl
theorem cmp_ne (i j : Int) : cmpD .ne (.dat (.int i)) (.dat (.int j)) = .ok (!decide (i = j)) := rfl
theorem cmp_lt (i j : Int) : cmpD .lt (.dat (.int i)) (.dat (.int j)) = .ok (decide (i < j)) := rfl
theorem cmp_le (i j : Int) : cmpD .le (.dat (.int i)) (.dat (.int j)) = .ok (decide (i ≤ j)) := rfl
theorem cmp_gt (i j : Int) : cmpD .gt (.dat (.int i)) (.dat (.int j)) = .ok (decide (j < i)) := rfl
theorem cmp_ge (i j : Int) : cmpD .ge (.dat (.int i)) (.dat (.int j)) = .ok (decide (j ≤ i)) := rfl
theorem blt_lenL (xs : List PyData) : bltD .len (.dat (.list xs)) = .ok (.dat (.int xs.length)) := rfl
theorem blt_tupL (xs : List PyData) : bltD .tuple (.dat (.list xs)) = .ok (.dat (.tuple xs)) := rfl
theorem blt_int (i : Int) : bltD .int (.dat (.int i)) = .ok (.dat (.int i)) := rfl
theorem isi_d (t : Ty) (x : PyData) : isiD t (.dat x) = .ok (isiV t x) := rfl
theorem idx_l (xs : List PyData) (i : Int) : idxD (.dat (.list xs)) (.dat (.int i)) = at_ xs i := rfl
theorem idx_t (xs : List PyData) (i : Int) : idxD (.dat (.tuple xs)) (.dat (.int i)) = at_ xs i := rfl
theorem retD_d (x : PyData) : retD (.dat x) = .ok (.rt (.dat x)) := rfl
theorem asgD_name (i : Nat) (x : PyData) (ρ : Env) : assignD (.name i) (.dat x) ρ = .ok (ρ.set i (some (.dat x))) := rfl
theorem asgD_tup (a b : Tg) (x : PyData) (ρ : Env) : assignD (.cons a b) (.dat x) ρ = assign (.cons a b) x ρ := rfl
theorem dats_nil : dats [] = .ok [] := rfl
theorem dats_cons (x : PyData) (ds : List D) : dats (.dat x :: ds) = (dats ds).bind fun xs => .ok (x :: xs) := rfl
theorem mkTup_of {ds : List D} {xs : List PyData} (h : dats ds = .ok xs) (hf : fits xs.length = true) : mkTup ds = .ok (.dat (.tuple xs)) := by
  unfold mkTup; rw [h]; exact if_pos hf
theorem mkLst_of {ds : List D} {xs : List PyData} (h : dats ds = .ok xs) (hf : fits xs.length = true) : mkLst ds = .ok (.dat (.list xs)) := by
  unfold mkLst; rw [h]; exact if_pos hf
theorem mkTup_0 : mkTup [] = .ok (.dat (.tuple [])) := rfl
theorem mkTup_1 (a : PyData) : mkTup [.dat a] = .ok (.dat (.tuple [a])) := rfl
theorem mkTup_2 (a b : PyData) : mkTup [.dat a, .dat b] = .ok (.dat (.tuple [a, b])) := rfl
theorem mkTup_3 (a b c : PyData) : mkTup [.dat a, .dat b, .dat c] = .ok (.dat (.tuple [a, b, c])) := rfl
theorem mkTup_4 (a b c d : PyData) : mkTup [.dat a, .dat b, .dat c, .dat d] = .ok (.dat (.tuple [a, b, c, d])) := rfl
theorem mkTup_5 (a b c d e : PyData) : mkTup [.dat a, .dat b, .dat c, .dat d, .dat e] = .ok (.dat (.tuple [a, b, c, d, e])) := rfl
theorem mkLst_0 : mkLst [] = .ok (.dat (.list [])) := rfl
theorem mkLst_1 (a : PyData) : mkLst [.dat a] = .ok (.dat (.list [a])) := rfl
theorem mkLst_2 (a b : PyData) : mkLst [.dat a, .dat b] = .ok (.dat (.list [a, b])) := rfl
theorem mkLst_3 (a b c : PyData) : mkLst [.dat a, .dat b, .dat c] = .ok (.dat (.list [a, b, c])) := rfl
theorem mkLst_4 (a b c d : PyData) : mkLst [.dat a, .dat b, .dat c, .dat d] = .ok (.dat (.list [a, b, c, d])) := rfl
theorem mkLst_5 (a b c d e : PyData) : mkLst [.dat a, .dat b, .dat c, .dat d, .dat e] = .ok (.dat (.list [a, b, c, d, e])) := rfl
theorem seq_l (xs : List PyData) : seqD (.dat (.list xs)) = .ok xs := rfl
theorem seq_t (xs : List PyData) : seqD (.dat (.tuple xs)) = .ok xs := rfl
/-! ### the meaning, call by value: no letter stands under a binder -/
def ap1 {α β : Type} (g : α → M β) (m : M α) : M β := m.bind g
def ap2 {α β γ : Type} (g : α → β → M γ) (m : M α) (n : M β) : M γ := m.bind fun x => n.bind fun y => g x y
theorem ap1_ok {α β : Type} (g : α → M β) (x : α) : ap1 g (.ok x) = g x := rfl
theorem ap2_ok {α β γ : Type} (g : α → β → M γ) (x : α) (y : β) : ap2 g (.ok x) (.ok y) = g x y := rfl
def negD (d : D) : M D := (asInt d).bind fun i => .ok (.dat (.int (-i)))
def notD (d : D) : M D := (asBl d).bind fun b => .ok (.dat (.bool (!b)))
def notB (b : Bool) : M Bool := .ok (!b)
def cmpE (op : COp) (x y : D) : M D := mbl (cmpD op x y)
def isiE (t : Ty) (x : D) : M D := mbl (isiD t x)
theorem negD_i (i : Int) : negD (.dat (.int i)) = .ok (.dat (.int (-i))) := rfl
theorem notD_b (b : Bool) : notD (.dat (.bool b)) = .ok (.dat (.bool (!b))) := rfl
theorem notB_b (b : Bool) : notB b = .ok (!b) := rfl
theorem cmpE_eq (i j : Int) : cmpE .eq (.dat (.int i)) (.dat (.int j)) = .ok (.dat (.bool (decide (i = j)))) := rfl
theorem cmpE_ne (i j : Int) : cmpE .ne (.dat (.int i)) (.dat (.int j)) = .ok (.dat (.bool (!decide (i = j)))) := rfl
theorem cmpE_lt (i j : Int) : cmpE .lt (.dat (.int i)) (.dat (.int j)) = .ok (.dat (.bool (decide (i < j)))) := rfl
theorem cmpE_le (i j : Int) : cmpE .le (.dat (.int i)) (.dat (.int j)) = .ok (.dat (.bool (decide (i ≤ j)))) := rfl
theorem cmpE_gt (i j : Int) : cmpE .gt (.dat (.int i)) (.dat (.int j)) = .ok (.dat (.bool (decide (j < i)))) := rfl
theorem cmpE_ge (i j : Int) : cmpE .ge (.dat (.int i)) (.dat (.int j)) = .ok (.dat (.bool (decide (j ≤ i)))) := rfl
theorem isiE_d (t : Ty) (x : PyData) : isiE t (.dat x) = .ok (.dat (.bool (isiV t x))) := rfl
section
variable (F : Nat → List D → M D)
def chainK (o2 : COp) (c : E) (ρ : Env) (y : D) (m : M Bool) : M D := m.bind fun r => match r with
  | true => (ev F c ρ).bind fun z => mbl (cmpD o2 y z)
  | false => .ok (.dat (.bool false))
def chainM (o1 o2 : COp) (c : E) (ρ : Env) (m n : M D) : M D := m.bind fun x => n.bind fun y => chainK F o2 c ρ y (cmpD o1 x y)
def chainTK (o2 : COp) (c : E) (ρ : Env) (y : D) (m : M Bool) : M Bool := m.bind fun r => match r with
  | true => (ev F c ρ).bind fun z => cmpD o2 y z
  | false => .ok false
def chainT (o1 o2 : COp) (c : E) (ρ : Env) (m n : M D) : M Bool := m.bind fun x => n.bind fun y => chainTK F o2 c ρ y (cmpD o1 x y)
def vK (conj : Bool) (es : Es) (ρ : Env) (m : M D) : M D := m.bind fun d => (asBl d).bind fun b => if b = conj then evV F conj es ρ else .ok (.dat (.bool b))
def bK (conj : Bool) (es : Es) (ρ : Env) (m : M Bool) : M Bool := m.bind fun b => if b = conj then evB F conj es ρ else .ok b
def iteM (a b : E) (ρ : Env) (m : M Bool) : M D := m.bind fun r => match r with
  | true => ev F a ρ
  | false => ev F b ρ
def consM (m : M D) (n : M (List D)) : M (List D) := m.bind fun d => n.bind fun ds => .ok (d :: ds)
def callM (f : Nat) (m : M (List D)) : M D := m.bind fun ds => F f ds
def callvM (fs : List Nat) (es : Es) (ρ : Env) (m : M D) : M D := m.bind fun d => match d with
  | .fn f => if fs.contains f then (evs F es ρ).bind fun ds => F f ds else .no
  | _ => .no
def ap3 {α β γ δ : Type} (g : α → β → γ → M δ) (m : M α) (n : M β) (o : M γ) : M δ := m.bind fun x => n.bind fun y => o.bind fun z => g x y z
def someI (d : D) : M (Option Int) := (asInt d).bind fun i => .ok (some i)
def compG (own : List Nat) (tg : Tg) (cond : Oe) (elt : E) (ρ : Env) (x : PyData) : M (Option PyData) := ((assign tg x (wipeE ρ own)).bind fun ρ' => (evC F cond ρ').bind fun b => match b with
      | true => (ev F elt ρ').bind asDat
      | false => .ok none).sure
def compR (own : List Nat) (tg : Tg) (cond : Oe) (elt : E) (ρ : Env) (m : M (List PyData)) : M D := m.bind fun xs => if fits xs.length then (mapGo (compG F own tg cond elt ρ) xs).bind fun ys => .ok (.dat (.list ys)) else .no
def asgM (tg : Tg) (ρ : Env) (m : M D) : M Flow := m.bind fun d => (assignD tg d ρ).bind fun ρ' => .ok (.nx ρ')
def par2M (i j : Nat) (ρ : Env) (m n : M D) : M Flow := m.bind fun x => n.bind fun y => .ok (.nx ((ρ.set i (some x)).set j (some y)))
def par3M (i j k : Nat) (ρ : Env) (m n o : M D) : M Flow := m.bind fun x => n.bind fun y => o.bind fun z => .ok (.nx (((ρ.set i (some x)).set j (some y)).set k (some z)))
def drumK (i f : Nat) (ρ : Env) (m : M (List D)) : M Flow := m.bind fun ds => (isKeg (F f ds)).bind fun _ => .ok (.nx (ρ.set i (some .keg)))
def exprM (ρ : Env) (m : M D) : M Flow := m.bind fun _ => .ok (.nx ρ)
def ifM (a b : Ss) (ρ : Env) (m : M Bool) : M Flow := m.bind fun r => match r with
  | true => xss F a ρ
  | false => xss F b ρ
def forB (tg : Tg) (b : Ss) (x : PyData) (ρ : Env) : M Flow := (assign tg x ρ).bind fun ρ' => xss F b ρ'
def forM (tg : Tg) (b : Ss) (ρ : Env) (m : M (List PyData)) : M Flow := m.bind fun ys => forGo (forB F tg b) ys ρ
def thenM (ss : Ss) (m : M Flow) : M Flow := m.bind fun fl => match fl with
  | .nx ρ' => xss F ss ρ'
  | .rt d => .ok (.rt d)
def runM (m : M Flow) : M D := m.bind fun fl => match fl with
  | .nx _ => .ok (.dat .none)
  | .rt d => .ok d
def wK (c : Env → M Bool) (f : Env → M Flow) (n : Nat) (ρ : Env) (m : M Bool) : M Flow := m.bind fun b => match b with
    | true => (f ρ).bind fun fl => match fl with
      | .nx ρ' => whileGo c f n ρ'
      | .rt d => .ok (.rt d)
    | false => .ok (.nx ρ)
def wN (c : Env → M Bool) (f : Env → M Flow) (n : Nat) (m : M Flow) : M Flow := m.bind fun fl => match fl with
      | .nx ρ' => whileGo c f n ρ'
      | .rt d => .ok (.rt d)
def fN (f : PyData → Env → M Flow) (xs : List PyData) (m : M Flow) : M Flow := m.bind fun fl => match fl with
    | .nx ρ' => forGo f xs ρ'
    | .rt d => .ok (.rt d)
variable {F}
variable (ρ : Env)
theorem v_var (i : Nat) : ev F (.var i) ρ = getV ρ i := rfl
theorem v_int (n : Int) : ev F (.int n) ρ = .ok (.dat (.int n)) := rfl
theorem v_bl (b : Bool) : ev F (.bl b) ρ = .ok (.dat (.bool b)) := rfl
theorem v_non : ev F .non ρ = .ok (.dat .none) := rfl
theorem v_fn (i : Nat) : ev F (.fn i) ρ = .ok (.fn i) := rfl
theorem v_bin (op : BOp) (a b : E) : ev F (.bin op a b) ρ = ap2 (binD op) (ev F a ρ) (ev F b ρ) := rfl
theorem v_neg (a : E) : ev F (.neg a) ρ = ap1 negD (ev F a ρ) := rfl
theorem v_cmp (op : COp) (a b : E) : ev F (.cmp op a b) ρ = ap2 (cmpE op) (ev F a ρ) (ev F b ρ) := rfl
theorem v_chain (o1 o2 : COp) (a b c : E) : ev F (.chain o1 o2 a b c) ρ = chainM F o1 o2 c ρ (ev F a ρ) (ev F b ρ) := rfl
theorem v_bop (conj : Bool) (es : Es) : ev F (.bop conj es) ρ = evV F conj es ρ := rfl
theorem v_not (a : E) : ev F (.not a) ρ = ap1 notD (ev F a ρ) := rfl
theorem v_ite (t a b : E) : ev F (.ite t a b) ρ = iteM F a b ρ (evT F t ρ) := rfl
theorem v_tup (es : Es) : ev F (.tup es) ρ = ap1 mkTup (evs F es ρ) := rfl
theorem v_lst (es : Es) : ev F (.lst es) ρ = ap1 mkLst (evs F es ρ) := rfl
theorem v_call (f : Nat) (es : Es) : ev F (.call f es) ρ = callM F f (evs F es ρ) := rfl
theorem v_callv (i : Nat) (fs : List Nat) (es : Es) : ev F (.callv i fs es) ρ = callvM F fs es ρ (getV ρ i) := rfl
theorem v_blt (b : Blt) (a : E) : ev F (.blt b a) ρ = ap1 (bltD b) (ev F a ρ) := rfl
theorem v_isi (a : E) (t : Ty) : ev F (.isi a t) ρ = ap1 (isiE t) (ev F a ρ) := rfl
theorem v_idx (a b : E) : ev F (.idx a b) ρ = ap2 idxD (ev F a ρ) (ev F b ρ) := rfl
theorem v_slice (a : E) (lo hi : Oe) : ev F (.slice a lo hi) ρ = ap3 sliceD (ev F a ρ) (evO F lo ρ) (evO F hi ρ) := rfl
theorem v_comp (own : List Nat) (tg : Tg) (it : It) (cond : Oe) (elt : E) : ev F (.comp own tg it cond elt) ρ = compR F own tg cond elt ρ (evI F it ρ) := rfl
theorem t_bop' (conj : Bool) (es : Es) : evT F (.bop conj es) ρ = evB F conj es ρ := rfl
theorem t_not' (a : E) : evT F (.not a) ρ = ap1 notB (evT F a ρ) := rfl
theorem t_cmp' (op : COp) (a b : E) : evT F (.cmp op a b) ρ = ap2 (cmpD op) (ev F a ρ) (ev F b ρ) := rfl
theorem t_chain' (o1 o2 : COp) (a b c : E) : evT F (.chain o1 o2 a b c) ρ = chainT F o1 o2 c ρ (ev F a ρ) (ev F b ρ) := rfl
theorem t_call' (f : Nat) (es : Es) : evT F (.call f es) ρ = ap1 asBl (callM F f (evs F es ρ)) := rfl
theorem t_isi' (a : E) (t : Ty) : evT F (.isi a t) ρ = ap1 (isiD t) (ev F a ρ) := rfl
theorem t_var' (i : Nat) : evT F (.var i) ρ = ap1 asBl (getV ρ i) := rfl
theorem vv_one (conj : Bool) (e : E) : evV F conj (.cons e .nil) ρ = ev F e ρ := by cases conj <;> rfl
theorem vv_cons (conj : Bool) (e e2 : E) (es : Es) : evV F conj (.cons e (.cons e2 es)) ρ = vK F conj (.cons e2 es) ρ (ev F e ρ) := by
  have key : ∀ (c : Bool) (m : M D), (m.bind fun d => (asBl d).bind fun b => match b with | true => (if c then evV F c (.cons e2 es) ρ else .ok (.dat (.bool true))) | false => (if c then .ok (.dat (.bool false)) else evV F c (.cons e2 es) ρ)) = vK F c (.cons e2 es) ρ m := fun c m => by
    unfold vK
    congr 1; funext d; congr 1; funext b
    cases b <;> cases c <;> rfl
  cases conj
  · exact key false _
  · exact key true _
theorem vB_one (conj : Bool) (e : E) : evB F conj (.cons e .nil) ρ = evT F e ρ := by cases conj <;> rfl
theorem vB_cons (conj : Bool) (e e2 : E) (es : Es) : evB F conj (.cons e (.cons e2 es)) ρ = bK F conj (.cons e2 es) ρ (evT F e ρ) := by
  have key : ∀ (c : Bool) (m : M Bool), (m.bind fun b => match b with | true => (if c then evB F c (.cons e2 es) ρ else .ok true) | false => (if c then .ok false else evB F c (.cons e2 es) ρ)) = bK F c (.cons e2 es) ρ m := fun c m => by
    unfold bK
    congr 1; funext b
    cases b <;> cases c <;> rfl
  cases conj
  · exact key false _
  · exact key true _
theorem vK_t (es : Es) : vK F true es ρ (.ok (.dat (.bool true))) = evV F true es ρ := rfl
theorem vK_f (es : Es) : vK F true es ρ (.ok (.dat (.bool false))) = .ok (.dat (.bool false)) := rfl
theorem vK_t' (es : Es) : vK F false es ρ (.ok (.dat (.bool true))) = .ok (.dat (.bool true)) := rfl
theorem vK_f' (es : Es) : vK F false es ρ (.ok (.dat (.bool false))) = evV F false es ρ := rfl
theorem bK_t (es : Es) : bK F true es ρ (.ok true) = evB F true es ρ := rfl
theorem bK_f (es : Es) : bK F true es ρ (.ok false) = .ok false := rfl
theorem bK_t' (es : Es) : bK F false es ρ (.ok true) = .ok true := rfl
theorem bK_f' (es : Es) : bK F false es ρ (.ok false) = evB F false es ρ := rfl
theorem s_nil : evs F .nil ρ = .ok [] := rfl
theorem s_cons (e : E) (es : Es) : evs F (.cons e es) ρ = consM (ev F e ρ) (evs F es ρ) := rfl
theorem consM_ok (d : D) (ds : List D) : consM (.ok d) (.ok ds) = .ok (d :: ds) := rfl
theorem callM_ok (f : Nat) (ds : List D) : callM F f (.ok ds) = F f ds := rfl
theorem chainM_ok (o1 o2 : COp) (c : E) (x y : D) : chainM F o1 o2 c ρ (.ok x) (.ok y) = chainK F o2 c ρ y (cmpD o1 x y) := rfl
theorem chainK_t (o2 : COp) (c : E) (y : D) : chainK F o2 c ρ y (.ok true) = ap1 (cmpE o2 y) (ev F c ρ) := rfl
theorem chainK_f (o2 : COp) (c : E) (y : D) : chainK F o2 c ρ y (.ok false) = .ok (.dat (.bool false)) := rfl
theorem chainT_ok (o1 o2 : COp) (c : E) (x y : D) : chainT F o1 o2 c ρ (.ok x) (.ok y) = chainTK F o2 c ρ y (cmpD o1 x y) := rfl
theorem chainTK_t (o2 : COp) (c : E) (y : D) : chainTK F o2 c ρ y (.ok true) = ap1 (cmpD o2 y) (ev F c ρ) := rfl
theorem chainTK_f (o2 : COp) (c : E) (y : D) : chainTK F o2 c ρ y (.ok false) = .ok false := rfl
theorem iteM_t (a b : E) : iteM F a b ρ (.ok true) = ev F a ρ := rfl
theorem iteM_f (a b : E) : iteM F a b ρ (.ok false) = ev F b ρ := rfl
theorem o_none' : evO F .none ρ = .ok none := rfl
theorem o_some' (e : E) : evO F (.some e) ρ = ap1 someI (ev F e ρ) := rfl
theorem someI_i (i : Int) : someI (.dat (.int i)) = .ok (some i) := rfl
theorem ap3_ok {α β γ δ : Type} (g : α → β → γ → M δ) (x : α) (y : β) (z : γ) : ap3 g (.ok x) (.ok y) (.ok z) = g x y z := rfl
theorem c_none' : evC F .none ρ = .ok true := rfl
theorem c_some' (e : E) : evC F (.some e) ρ = evT F e ρ := rfl
theorem i_seq' (e : E) : evI F (.seq e) ρ = ap1 seqD (ev F e ρ) := rfl
theorem i_range1' (a : E) : evI F (.range1 a) ρ = ap1 range1D (ev F a ρ) := rfl
theorem i_range2' (a b : E) : evI F (.range2 a b) ρ = ap2 range2D (ev F a ρ) (ev F b ρ) := rfl
theorem compR_ok {own : List Nat} {tg : Tg} {cond : Oe} {elt : E} {xs ys : List PyData} (hf : fits xs.length = true) (h : mapGo (compG F own tg cond elt ρ) xs = .ok ys) : compR F own tg cond elt ρ (.ok xs) = .ok (.dat (.list ys)) := by
  show (if fits xs.length then (mapGo (compG F own tg cond elt ρ) xs).bind fun ys => M.ok (D.dat (.list ys)) else .no) = _
  rw [if_pos hf, h]; rfl
def mapK (o : M (Option PyData)) (m : M (List PyData)) : M (List PyData) := o.bind fun o => m.bind fun ys => .ok (match o with | some y => y :: ys | none => ys)
theorem mapGo_nil (f : PyData → M (Option PyData)) : mapGo f [] = .ok [] := rfl
theorem mapGo_cons (f : PyData → M (Option PyData)) (x : PyData) (xs : List PyData) : mapGo f (x :: xs) = mapK (f x) (mapGo f xs) := rfl
theorem mapK_s (y : PyData) (ys : List PyData) : mapK (.ok (some y)) (.ok ys) = .ok (y :: ys) := rfl
theorem mapK_n (ys : List PyData) : mapK (.ok none) (.ok ys) = .ok ys := rfl
def cgK (F : Nat → List D → M D) (elt : E) (ρ : Env) (m : M Bool) : M (Option PyData) := (m.bind fun b => match b with
      | true => (ev F elt ρ).bind asDat
      | false => .ok none).sure
theorem compG_name {own : List Nat} {i : Nat} {cond : Oe} {elt : E} {x : PyData} : compG F own (.name i) cond elt ρ x = cgK F elt ((wipeE ρ own).set i (some (.dat x))) (evC F cond ((wipeE ρ own).set i (some (.dat x)))) := rfl
def sureD (m : M D) : M (Option PyData) := (m.bind asDat).sure
theorem cgK_t (elt : E) : cgK F elt ρ (.ok true) = sureD (ev F elt ρ) := rfl
theorem cgK_f (elt : E) : cgK F elt ρ (.ok false) = .ok none := rfl
theorem sureD_d (x : PyData) : sureD (.ok (.dat x)) = .ok (some x) := rfl
theorem x_asg (tg : Tg) (e : E) : xs F (.asg tg e) ρ = asgM tg ρ (ev F e ρ) := rfl
theorem asgM_name (i : Nat) (x : PyData) : asgM (.name i) ρ (.ok (.dat x)) = .ok (.nx (ρ.set i (some (.dat x)))) := rfl
theorem x_par2 (i j : Nat) (a b : E) : xs F (.par2 i j a b) ρ = par2M i j ρ (ev F a ρ) (ev F b ρ) := rfl
theorem par2M_ok (i j : Nat) (x y : D) : par2M i j ρ (.ok x) (.ok y) = .ok (.nx ((ρ.set i (some x)).set j (some y))) := rfl
theorem x_par3 (i j k : Nat) (a b c : E) : xs F (.par3 i j k a b c) ρ = par3M i j k ρ (ev F a ρ) (ev F b ρ) (ev F c ρ) := rfl
theorem par3M_ok (i j k : Nat) (x y z : D) : par3M i j k ρ (.ok x) (.ok y) (.ok z) = .ok (.nx (((ρ.set i (some x)).set j (some y)).set k (some z))) := rfl
theorem x_drum (i f : Nat) (es : Es) : xs F (.drum i f es) ρ = drumK F i f ρ (evs F es ρ) := rfl
theorem drumK_ok {i f : Nat} {ds : List D} (h : F f ds = .ok .keg) : drumK F i f ρ (.ok ds) = .ok (.nx (ρ.set i (some .keg))) := by
  show (isKeg (F f ds)).bind _ = _
  rw [h]; rfl
theorem x_expr (e : E) : xs F (.expr e) ρ = exprM ρ (ev F e ρ) := rfl
theorem exprM_ok (d : D) : exprM ρ (.ok d) = .ok (.nx ρ) := rfl
theorem x_ret (e : E) : xs F (.ret e) ρ = ap1 retD (ev F e ρ) := rfl
theorem x_ifs (t : E) (a b : Ss) : xs F (.ifs t a b) ρ = ifM F a b ρ (evT F t ρ) := rfl
theorem ifM_t (a b : Ss) : ifM F a b ρ (.ok true) = xss F a ρ := rfl
theorem ifM_f (a b : Ss) : ifM F a b ρ (.ok false) = xss F b ρ := rfl
theorem x_while (n : Nat) (t : E) (b : Ss) : xs F (.whil n t b) ρ = whileGo (evT F t) (xss F b) n ρ := rfl
theorem x_for (tg : Tg) (it : It) (b : Ss) : xs F (.fors tg it b) ρ = forM F tg b ρ (evI F it ρ) := rfl
theorem forM_ok (tg : Tg) (b : Ss) (ys : List PyData) : forM F tg b ρ (.ok ys) = forGo (forB F tg b) ys ρ := rfl
theorem forB_name (i : Nat) (b : Ss) (x : PyData) : forB F (.name i) b x ρ = xss F b (ρ.set i (some (.dat x))) := rfl
theorem forGo_nil (f : PyData → Env → M Flow) : forGo f [] ρ = .ok (.nx ρ) := rfl
theorem forGo_cons (f : PyData → Env → M Flow) (x : PyData) (xs : List PyData) : forGo f (x :: xs) ρ = fN f xs (f x ρ) := rfl
theorem fN_nx (f : PyData → Env → M Flow) (xs : List PyData) : fN f xs (.ok (.nx ρ)) = forGo f xs ρ := rfl
theorem fN_rt (f : PyData → Env → M Flow) (xs : List PyData) (d : D) : fN f xs (.ok (.rt d)) = .ok (.rt d) := rfl
theorem ss_nil' : xss F .nil ρ = .ok (.nx ρ) := rfl
theorem ss_cons' (s : S) (ss : Ss) : xss F (.cons s ss) ρ = thenM F ss (xs F s ρ) := rfl
theorem thenM_nx (ss : Ss) : thenM F ss (.ok (.nx ρ)) = xss F ss ρ := rfl
theorem thenM_rt (ss : Ss) (d : D) : thenM F ss (.ok (.rt d)) = .ok (.rt d) := rfl
theorem runM_nx : runM (.ok (.nx ρ)) = .ok (.dat .none) := rfl
theorem runM_rt (d : D) : runM (.ok (.rt d)) = .ok d := rfl
theorem run_eq {d : Df} {ds : List D} (h : ds.length = d.pars) : Ev.run F d ds = runM (xss F d.body (ds.map some ++ List.replicate (d.slots - ds.length) none)) := if_pos h
theorem while_s (c : Env → M Bool) (f : Env → M Flow) (n : Nat) : whileGo c f (n + 1) ρ = wK c f n ρ (c ρ) := rfl
theorem wK_t (c : Env → M Bool) (f : Env → M Flow) (n : Nat) : wK c f n ρ (.ok true) = wN c f n (f ρ) := rfl
theorem wK_f (c : Env → M Bool) (f : Env → M Flow) (n : Nat) : wK c f n ρ (.ok false) = .ok (.nx ρ) := rfl
theorem wN_nx (c : Env → M Bool) (f : Env → M Flow) (n : Nat) : wN c f n (.ok (.nx ρ)) = whileGo c f n ρ := rfl
theorem asgM_tup (a b : Tg) (x : PyData) : asgM (.cons a b) ρ (.ok (.dat x)) = (assign (.cons a b) x ρ).bind fun ρ' => .ok (.nx ρ') := rfl
end
/-! ### draws, and what is wanted behind a part (a structure: its statement is never unfolded by a look at it) -/
theorem W_mono {α : Type} {m : M α} {Q Q' : α → Prop} {E : Nat → Prop} (h : Wp m Q E) (hq : ∀ a, Q a → Q' a) : Wp m Q' E := ⟨wp_mono h.run hq fun _ z => z⟩
theorem W_bind {α β : Type} {g : α → M β} {m : M α} {Q : β → Prop} {E : Nat → Prop} (h : Wp m (fun x => Wp (g x) Q E) E) : Wp (m.bind g) Q E := ⟨wp_bind' (wp_mono h.run (fun _ q => q.run) fun _ z => z)⟩
theorem W_roll {α : Type} {n : Nat} {k : Nat → M α} {Q : α → Prop} {E : Nat → Prop} (h : ∀ i, i < n → Wp (k i) Q E) : Wp (.roll n k) Q E := ⟨fun i hi => (h i hi).run⟩
theorem W_ok {α : Type} {a : α} {Q : α → Prop} {E : Nat → Prop} (h : Q a) : Wp (.ok a) Q E := ⟨h⟩
theorem W_ap1 {α β : Type} {g : α → M β} {m : M α} {Q : β → Prop} {E : Nat → Prop} (h : Wp m (fun x => Wp (g x) Q E) E) : Wp (ap1 g m) Q E := W_bind h
theorem W_ap2 {α β γ : Type} {g : α → β → M γ} {m : M α} {n : M β} {Q : γ → Prop} {E : Nat → Prop} (h : Wp m (fun x => Wp n (fun y => Wp (g x y) Q E) E) E) : Wp (ap2 g m n) Q E := W_bind (W_mono h fun _ q => W_bind q)
section
variable {F : Nat → List D → M D} {ρ : Env} {E : Nat → Prop}
theorem W_thenM {ss : Ss} {m : M Flow} {Q : Flow → Prop} (h : Wp m (fun fl => Wp (thenM F ss (.ok fl)) Q E) E) : Wp (thenM F ss m) Q E := W_bind h
theorem W_runM {m : M Flow} {Q : D → Prop} (h : Wp m (fun fl => Wp (runM (.ok fl)) Q E) E) : Wp (runM m) Q E := W_bind h
theorem W_fN {f : PyData → Env → M Flow} {xs : List PyData} {m : M Flow} {Q : Flow → Prop} (h : Wp m (fun fl => Wp (fN f xs (.ok fl)) Q E) E) : Wp (fN f xs m) Q E := W_bind h
theorem W_asgM {tg : Tg} {m : M D} {Q : Flow → Prop} (h : Wp m (fun d => Wp (asgM tg ρ (.ok d)) Q E) E) : Wp (asgM tg ρ m) Q E := W_bind h
theorem W_ifM {a b : Ss} {m : M Bool} {Q : Flow → Prop} (h : Wp m (fun r => Wp (ifM F a b ρ (.ok r)) Q E) E) : Wp (ifM F a b ρ m) Q E := W_bind h
theorem W_callM {f : Nat} {m : M (List D)} {Q : D → Prop} (h : Wp m (fun ds => Wp (F f ds) Q E) E) : Wp (callM F f m) Q E := W_bind h
theorem W_consM {m : M D} {n : M (List D)} {Q : List D → Prop} (h : Wp m (fun d => Wp n (fun ds => Q (d :: ds)) E) E) : Wp (consM m n) Q E := W_bind (W_mono h fun _ q => W_bind (W_mono q fun _ z => W_ok z))
theorem W_bK {conj : Bool} {es : Es} {m : M Bool} {Q : Bool → Prop} (h : Wp m (fun b => Wp (bK F conj es ρ (.ok b)) Q E) E) : Wp (bK F conj es ρ m) Q E := W_bind h
theorem W_iteM {a b : Ev.E} {m : M Bool} {Q : D → Prop} {E' : Nat → Prop} (h : Wp m (fun r => Wp (iteM F a b ρ (.ok r)) Q E') E') : Wp (iteM F a b ρ m) Q E' := W_bind h
theorem W_forM {tg : Tg} {b : Ss} {m : M (List PyData)} {Q : Flow → Prop} (h : Wp m (fun ys => Wp (forGo (forB F tg b) ys ρ) Q E) E) : Wp (forM F tg b ρ m) Q E := W_bind h
theorem W_par2M {i j : Nat} {m n : M D} {Q : Flow → Prop} (h : Wp m (fun x => Wp n (fun y => Q (.nx ((ρ.set i (some x)).set j (some y)))) E) E) : Wp (par2M i j ρ m n) Q E := W_bind (W_mono h fun _ q => W_bind (W_mono q fun _ z => W_ok z))
theorem W_par3M {i j k : Nat} {m n o : M D} {Q : Flow → Prop} (h : Wp m (fun x => Wp n (fun y => Wp o (fun z => Q (.nx (((ρ.set i (some x)).set j (some y)).set k (some z)))) E) E) E) : Wp (par3M i j k ρ m n o) Q E := W_bind (W_mono h fun _ q => W_bind (W_mono q fun _ z => W_bind (W_mono z fun _ t => W_ok t)))
end
/-! ### sizes of numbers -/
abbrev bd (n : Nat) (x : Int) : Prop := x.natAbs < 2 ^ n
theorem bd_mul {a b : Nat} {x y : Int} (h : bd a x) (k : bd b y) : bd (a + b) (x * y) := wide_lt h k
theorem bd_mono {a b : Nat} {x : Int} (h : bd a x) (k : a ≤ b) : bd b x := Nat.lt_of_lt_of_le h (Nat.pow_le_pow_right (by decide) k)
theorem bd_ok {a b : Nat} {x y : Int} (h : bd a x) (k : bd b y) (ha : 0 < a) (hb : 0 < b) (hs : a + b ≤ 1000000) : CMulW x y := wide_mul h k ha hb hs
/-! ### sums alike by a modulus -/
def cg (m a b : Int) : Prop := m ∣ a - b
theorem cg_refl (m a : Int) : cg m a a := ⟨0, by omega⟩
theorem cg_of_eq {m a b : Int} (h : a = b) : cg m a b := h ▸ cg_refl m a
theorem cg_symm {m a b : Int} (h : cg m a b) : cg m b a := by
  obtain ⟨k, e⟩ := h
  exact ⟨-k, by rw [Int.mul_neg, ← e]; omega⟩
theorem cg_trans {m a b c : Int} (h : cg m a b) (k : cg m b c) : cg m a c := by
  obtain ⟨x, e⟩ := h
  obtain ⟨y, f⟩ := k
  exact ⟨x + y, by rw [Int.mul_add, ← e, ← f]; omega⟩
theorem cg_add {m a b c d : Int} (h : cg m a b) (k : cg m c d) : cg m (a + c) (b + d) := by
  obtain ⟨x, e⟩ := h
  obtain ⟨y, f⟩ := k
  exact ⟨x + y, by rw [Int.mul_add, ← e, ← f]; omega⟩
theorem cg_neg {m a b : Int} (h : cg m a b) : cg m (-a) (-b) := by
  obtain ⟨k, e⟩ := h
  exact ⟨-k, by rw [Int.mul_neg, ← e]; omega⟩
theorem cg_sub {m a b c d : Int} (h : cg m a b) (k : cg m c d) : cg m (a - c) (b - d) := by
  have := cg_add h (cg_neg k)
  exact this
theorem cg_mul {m a b c d : Int} (h : cg m a b) (k : cg m c d) : cg m (a * c) (b * d) := by
  obtain ⟨x, e⟩ := h
  obtain ⟨y, f⟩ := k
  refine ⟨x * c + b * y, ?_⟩
  have e1 : a = b + m * x := by omega
  have e2 : c = d + m * y := by omega
  rw [e1, e2]
  grind
theorem cg_pow {m a b : Int} (h : cg m a b) (n : Nat) : cg m (a ^ n) (b ^ n) := by
  induction n with
  | zero => rw [Int.pow_zero, Int.pow_zero]; exact cg_refl _ _
  | succ n ih => rw [Int.pow_succ, Int.pow_succ]; exact cg_mul ih h
theorem cg_mod (m a : Int) : cg m (a % m) a := ⟨-(a / m), by have := Int.mul_ediv_add_emod a m; rw [Int.mul_neg]; omega⟩
theorem cg_eq {m a b : Int} (h : cg m a b) : a % m = b % m := (Int.emod_emod_of_dvd a (Int.dvd_refl m)).symm.trans ((Int.emod_emod_of_dvd b (Int.dvd_refl m)) ▸ by
  obtain ⟨k, e⟩ := h
  have e1 : a = b + m * k := by omega
  rw [e1, Int.add_mul_emod_self_left])
theorem cg_zero {m a : Int} (h : cg m a 0) : a % m = 0 := by rw [cg_eq h]; simp
theorem cg_dvd {m n a b : Int} (h : cg m a b) (d : n ∣ m) : cg n a b := Int.dvd_trans d h
end Ev
end

section
set_option Elab.async false
set_option linter.all false
set_option maxRecDepth 100000
set_option maxHeartbeats 4000000
namespace K64
open PySem L2 Ev
def top (i : Nat) : Stmt := PySem.Challenge.pw_huesandrounds_k64_whole_drums_of_any_num.main.body.getD i (.Pass ⟨0, 0, 0, 0⟩)
abbrev fuel : Nat := 100000
def names : List Str := ["is_whole", "need_number", "power_by", "ring_hues", "times", "row_at", "need_sides", "drum_rounds", "drum_edge_hues", "drum_face_hues", "drum_pairings", "drum_trees", "_law_drum", "_law_roll", "_law_some", "_law_rest", "_law_right", "_law_faces_right", "law"]
def fn (i : Nat) : Option Str := if [12].contains i then none else names[i]?
def dn (i : Nat) : Option Str := if [12].contains i then names[i]? else none
def N0 : List Str := ["value", "low", "high"]
def P0 : List Str := ["value", "low", "high"]
def d0 : Df := ⟨3, 3, (.cons (.ret (.bop true (.cons (.isi (.var 0) .int) (.cons (.not (.isi (.var 0) .bool)) (.cons (.chain .le .le (.var 1) (.var 0) (.var 2)) .nil))))) .nil)⟩
def N1 : List Str := ["value", "low", "high"]
def P1 : List Str := ["value", "low", "high"]
def d1 : Df := ⟨3, 3, (.cons (.ifs (.not (.call 0 (.cons (.var 0) (.cons (.var 1) (.cons (.var 2) .nil))))) (.cons .raise .nil) .nil) .nil)⟩
def t2_0 : E := (.cmp .gt (.var 4) (.int 0))
def b2_1 : Ss := (.cons (.ifs (.cmp .eq (.bin .mod (.var 4) (.int 2)) (.int 1)) (.cons (.asg (.name 3) (.bin .mod (.bin .mul (.var 3) (.var 5)) (.var 2))) .nil) .nil) (.cons (.par2 4 5 (.bin .fdiv (.var 4) (.int 2)) (.bin .mod (.bin .mul (.var 5) (.var 5)) (.var 2))) .nil))
def N2 : List Str := ["one", "many", "modulus", "found", "left", "step"]
def P2 : List Str := ["one", "many", "modulus"]
def d2 : Df := ⟨6, 3, (.cons (.par3 3 4 5 (.bin .mod (.int 1) (.var 2)) (.var 1) (.bin .mod (.var 0) (.var 2))) (.cons (.whil fuel t2_0 b2_1) (.cons (.ret (.var 3)) .nil)))⟩
def N3 : List Str := ["sides", "many", "modulus"]
def P3 : List Str := ["sides", "many", "modulus"]
def d3 : Df := ⟨3, 3, (.cons (.ret (.bin .add (.call 2 (.cons (.bin .sub (.var 1) (.int 1)) (.cons (.var 0) (.cons (.var 2) .nil)))) (.ite (.cmp .eq (.bin .mod (.var 0) (.int 2)) (.int 0)) (.bin .sub (.var 1) (.int 1)) (.bin .sub (.int 1) (.var 1))))) .nil)⟩
def N4 : List Str := ["one", "other", "modulus", "row", "a", "b", "c", "d", "e", "f", "g", "h", "part"]
def P4 : List Str := ["one", "other", "modulus"]
def d4 : Df := ⟨13, 3, (.cons (.asg (.cons (.cons (.name 4) (.cons (.name 5) (.cons (.name 6) (.cons (.name 7) .nil)))) (.cons (.cons (.name 8) (.cons (.name 9) (.cons (.name 10) (.cons (.name 11) .nil)))) .nil)) (.tup (.cons (.var 0) (.cons (.var 1) .nil)))) (.cons (.asg (.name 3) (.tup (.cons (.bin .add (.bin .mul (.var 4) (.var 8)) (.bin .mul (.var 5) (.var 10))) (.cons (.bin .add (.bin .mul (.var 4) (.var 9)) (.bin .mul (.var 5) (.var 11))) (.cons (.bin .add (.bin .mul (.var 6) (.var 8)) (.bin .mul (.var 7) (.var 10))) (.cons (.bin .add (.bin .mul (.var 6) (.var 9)) (.bin .mul (.var 7) (.var 11))) .nil)))))) (.cons (.ret (.blt .tuple (.comp [12] (.name 12) (.seq (.var 3)) .none (.bin .mod (.var 12) (.var 2))))) .nil)))⟩
def t5_0 : E := (.cmp .gt (.var 8) (.int 0))
def b5_1 : Ss := (.cons (.ifs (.cmp .eq (.bin .mod (.var 8) (.int 2)) (.int 1)) (.cons (.asg (.name 6) (.call 4 (.cons (.var 6) (.cons (.var 7) (.cons (.var 5) .nil))))) .nil) .nil) (.cons (.par2 7 8 (.call 4 (.cons (.var 7) (.cons (.var 7) (.cons (.var 5) .nil)))) (.bin .fdiv (.var 8) (.int 2))) .nil))
def N5 : List Str := ["first", "second", "much", "less", "index", "modulus", "found", "step", "left"]
def P5 : List Str := ["first", "second", "much", "less", "index", "modulus"]
def d5 : Df := ⟨9, 6, (.cons (.par3 6 7 8 (.tup (.cons (.int 1) (.cons (.int 0) (.cons (.int 0) (.cons (.int 1) .nil))))) (.tup (.cons (.int 0) (.cons (.int 1) (.cons (.var 3) (.cons (.var 2) .nil))))) (.var 4)) (.cons (.whil fuel t5_0 b5_1) (.cons (.ret (.bin .mod (.bin .add (.bin .mul (.idx (.var 6) (.int 0)) (.var 0)) (.bin .mul (.idx (.var 6) (.int 1)) (.var 1))) (.var 5))) .nil)))⟩
def N6 : List Str := ["value", "most"]
def P6 : List Str := ["value", "most"]
def d6 : Df := ⟨2, 2, (.cons (.ifs (.not (.call 0 (.cons (.var 0) (.cons (.int 3) (.cons (.var 1) .nil))))) (.cons .raise .nil) .nil) .nil)⟩
def N7 : List Str := ["sides"]
def P7 : List Str := ["sides"]
def d7 : Df := ⟨1, 1, (.cons (.expr (.call 6 (.cons (.var 0) (.cons (.bin .pow (.int 10) (.int 30)) .nil)))) (.cons (.ret (.bin .add (.var 0) (.ite (.cmp .eq (.bin .mod (.var 0) (.int 2)) (.int 0)) (.int 2) (.int 0)))) .nil))⟩
def N8 : List Str := ["sides", "modulus"]
def P8 : List Str := ["sides", "modulus"]
def d8 : Df := ⟨2, 2, (.cons (.expr (.call 6 (.cons (.var 0) (.cons (.bin .pow (.int 10) (.int 30)) .nil)))) (.cons (.expr (.call 1 (.cons (.var 1) (.cons (.int 1) (.cons (.bin .pow (.int 10) (.int 12)) .nil))))) (.cons (.ret (.bin .mod (.bin .add (.call 2 (.cons (.int 2) (.cons (.var 0) (.cons (.var 1) .nil)))) (.ite (.cmp .eq (.bin .mod (.var 0) (.int 2)) (.int 0)) (.int 8) (.neg (.int 2)))) (.var 1))) .nil)))⟩
def N9 : List Str := ["sides", "many", "modulus", "same", "unlike"]
def P9 : List Str := ["sides", "many", "modulus"]
def d9 : Df := ⟨5, 3, (.cons (.expr (.call 6 (.cons (.var 0) (.cons (.bin .pow (.int 10) (.int 30)) .nil)))) (.cons (.expr (.call 1 (.cons (.var 1) (.cons (.int 0) (.cons (.bin .pow (.int 10) (.int 12)) .nil))))) (.cons (.expr (.call 1 (.cons (.var 2) (.cons (.int 1) (.cons (.bin .pow (.int 10) (.int 12)) .nil))))) (.cons (.par2 3 4 (.call 3 (.cons (.var 0) (.cons (.bin .sub (.var 1) (.int 1)) (.cons (.var 2) .nil)))) (.call 3 (.cons (.var 0) (.cons (.bin .sub (.var 1) (.int 2)) (.cons (.var 2) .nil))))) (.cons (.ret (.bin .mod (.bin .add (.bin .mul (.var 1) (.var 3)) (.bin .mul (.bin .mul (.var 1) (.bin .sub (.var 1) (.int 1))) (.var 4))) (.var 2))) .nil)))))⟩
def N10 : List Str := ["sides", "modulus"]
def P10 : List Str := ["sides", "modulus"]
def d10 : Df := ⟨2, 2, (.cons (.expr (.call 6 (.cons (.var 0) (.cons (.bin .pow (.int 10) (.int 30)) .nil)))) (.cons (.expr (.call 1 (.cons (.var 1) (.cons (.int 1) (.cons (.bin .pow (.int 10) (.int 12)) .nil))))) (.cons (.ret (.bin .mod (.bin .add (.call 5 (.cons (.int 2) (.cons (.int 1) (.cons (.int 1) (.cons (.int 1) (.cons (.var 0) (.cons (.var 1) .nil))))))) (.ite (.cmp .eq (.bin .mod (.var 0) (.int 2)) (.int 0)) (.int 2) (.int 0))) (.var 1))) .nil)))⟩
def N11 : List Str := ["sides", "modulus"]
def P11 : List Str := ["sides", "modulus"]
def d11 : Df := ⟨2, 2, (.cons (.expr (.call 6 (.cons (.var 0) (.cons (.bin .pow (.int 10) (.int 30)) .nil)))) (.cons (.expr (.call 1 (.cons (.var 1) (.cons (.int 1) (.cons (.bin .pow (.int 10) (.int 12)) .nil))))) (.cons (.ret (.bin .mod (.bin .mul (.var 0) (.bin .sub (.call 5 (.cons (.int 1) (.cons (.int 2) (.cons (.int 4) (.cons (.neg (.int 1)) (.cons (.var 0) (.cons (.var 1) .nil))))))) (.int 1))) (.var 1))) .nil)))⟩
def N14 : List Str := ["_law_keg", "_law_things"]
def P14 : List Str := ["_law_keg", "_law_things"]
def d14 : Df := ⟨2, 2, (.cons (.ret (.idx (.var 1) (.call 13 (.cons (.var 0) (.cons (.blt .len (.var 1)) .nil))))) .nil)⟩
def N15 : List Str := ["_law_call", "_law_sides_so", "_law_modulus_so", "_law_found"]
def P15 : List Str := ["_law_call", "_law_sides_so", "_law_modulus_so"]
def d15 : Df := ⟨4, 3, (.cons (.asg (.name 3) (.callv 0 [0, 1, 2, 3, 4, 5, 6, 7, 8, 9, 10, 11, 13, 14, 15, 16, 17, 18] (.cons (.var 1) (.cons (.var 2) .nil)))) (.cons (.ifs (.bop false (.cons (.not (.isi (.var 3) .int)) (.cons (.isi (.var 3) .bool) (.cons (.not (.chain .le .lt (.int 0) (.var 3) (.var 2))) .nil)))) (.cons (.ret .non) .nil) .nil) (.cons (.ret (.var 3)) .nil)))⟩
def b16_0 : Ss := (.cons (.ifs (.cmp .ne (.bin .mod (.bin .sub (.bin .sub (.idx (.var 7) (.bin .add (.var 8) (.int 2))) (.idx (.var 7) (.bin .add (.var 8) (.int 1)))) (.idx (.var 7) (.var 8))) (.var 2)) (.int 0)) (.cons (.ret (.bl false)) .nil) .nil) .nil)
def N16 : List Str := ["_law_drum_so", "_law_sides_so", "_law_modulus_so", "_law_hues_so", "_law_pairs", "_law_trees", "_law_even", "_law_lucas", "_law_step", "_law_left", "_law_first", "_law_second", "_law_third"]
def P16 : List Str := ["_law_drum_so", "_law_sides_so", "_law_modulus_so"]
def d16 : Df := ⟨13, 3, (.cons (.asg (.name 3) (.comp [8] (.name 8) (.range1 (.int 3)) .none (.call 15 (.cons (.fn 8) (.cons (.bin .add (.var 1) (.var 8)) (.cons (.var 2) .nil)))))) (.cons (.asg (.name 4) (.comp [8] (.name 8) (.range1 (.int 5)) .none (.call 15 (.cons (.fn 10) (.cons (.bin .add (.var 1) (.var 8)) (.cons (.var 2) .nil)))))) (.cons (.asg (.name 5) (.comp [8] (.name 8) (.range1 (.int 3)) .none (.call 15 (.cons (.fn 11) (.cons (.bin .add (.var 1) (.var 8)) (.cons (.var 2) .nil)))))) (.cons (.ifs (.bop false (.cons (.cmp .isin .non (.bin .add (.bin .add (.var 3) (.var 4)) (.var 5))) (.cons (.cmp .ne (.bin .sub (.call 7 (.cons (.var 1) .nil)) (.var 1)) (.ite (.cmp .eq (.bin .mod (.var 1) (.int 2)) (.int 0)) (.int 2) (.int 0))) .nil))) (.cons (.ret (.bl false)) .nil) .nil) (.cons (.asg (.name 6) (.ite (.cmp .eq (.bin .mod (.var 1) (.int 2)) (.int 0)) (.int 8) (.neg (.int 2)))) (.cons (.ifs (.cmp .ne (.bin .mod (.bin .sub (.bin .sub (.idx (.var 3) (.int 2)) (.var 6)) (.bin .mul (.int 4) (.bin .sub (.idx (.var 3) (.int 0)) (.var 6)))) (.var 2)) (.int 0)) (.cons (.ret (.bl false)) .nil) .nil) (.cons (.ifs (.cmp .ne (.bin .mod (.bin .sub (.bin .sub (.bin .add (.idx (.var 3) (.int 1)) (.idx (.var 3) (.int 0))) (.int 6)) (.bin .mul (.int 3) (.bin .sub (.idx (.var 3) (.int 0)) (.var 6)))) (.var 2)) (.int 0)) (.cons (.ret (.bl false)) .nil) .nil) (.cons (.asg (.name 7) (.comp [8] (.name 8) (.range1 (.int 5)) .none (.bin .sub (.idx (.var 4) (.var 8)) (.ite (.cmp .eq (.bin .mod (.bin .add (.var 1) (.var 8)) (.int 2)) (.int 0)) (.int 2) (.int 0))))) (.cons (.fors (.name 8) (.range1 (.int 3)) b16_0) (.cons (.asg (.cons (.name 10) (.cons (.name 11) (.cons (.name 12) .nil))) (.comp [8] (.name 8) (.range1 (.int 3)) .none (.bin .add (.var 1) (.var 8)))) (.cons (.asg (.name 9) (.bin .add (.bin .sub (.bin .mul (.bin .mul (.var 12) (.var 11)) (.idx (.var 5) (.int 0))) (.bin .mul (.bin .mul (.bin .mul (.int 4) (.var 12)) (.var 10)) (.idx (.var 5) (.int 1)))) (.bin .mul (.bin .mul (.var 11) (.var 10)) (.idx (.var 5) (.int 2))))) (.cons (.ret (.cmp .eq (.bin .mod (.bin .sub (.var 9) (.bin .mul (.bin .mul (.bin .mul (.int 2) (.var 10)) (.var 11)) (.var 12))) (.var 2)) (.int 0))) .nil))))))))))))⟩
def N17 : List Str := ["_law_drum_so", "_law_sides_so", "_law_modulus_so", "_law_four", "_law_whole", "_law_three", "_law_tints", "_law_part", "_law_many"]
def P17 : List Str := ["_law_drum_so", "_law_sides_so", "_law_modulus_so"]
def d17 : Df := ⟨9, 3, (.cons (.asg (.name 3) (.call 9 (.cons (.var 1) (.cons (.int 4) (.cons (.var 2) .nil))))) (.cons (.ifs (.cmp .ne (.bin .mod (.bin .sub (.var 3) (.bin .mul (.int 4) (.call 8 (.cons (.var 1) (.cons (.var 2) .nil))))) (.var 2)) (.int 0)) (.cons (.ret (.bl false)) .nil) .nil) (.cons (.par2 6 7 (.call 13 (.cons (.var 0) (.cons (.bin .pow (.int 10) (.int 12)) .nil))) (.bin .add (.int 1) (.call 13 (.cons (.var 0) (.cons (.bin .pow (.int 10) (.int 5)) .nil))))) (.cons (.asg (.name 4) (.call 9 (.cons (.var 1) (.cons (.var 6) (.cons (.bin .mul (.var 7) (.int 1000)) .nil))))) (.cons (.ifs (.cmp .ne (.bin .mod (.var 4) (.var 7)) (.call 9 (.cons (.var 1) (.cons (.var 6) (.cons (.var 7) .nil))))) (.cons (.ret (.bl false)) .nil) .nil) (.cons (.ifs (.cmp .ne (.bin .mod (.var 4) (.int 1000)) (.call 9 (.cons (.var 1) (.cons (.bin .mod (.var 6) (.int 1000)) (.cons (.int 1000) .nil))))) (.cons (.ret (.bl false)) .nil) .nil) (.cons (.asg (.name 5) (.ite (.cmp .eq (.bin .mod (.var 1) (.int 2)) (.int 0)) (.int 6) (.int 0))) (.cons (.ret (.cmp .eq (.comp [8] (.name 8) (.seq (.tup (.cons (.int 0) (.cons (.int 1) (.cons (.int 2) (.cons (.int 3) .nil)))))) .none (.call 9 (.cons (.var 1) (.cons (.var 8) (.cons (.int 100) .nil))))) (.lst (.cons (.int 0) (.cons (.int 0) (.cons (.int 0) (.cons (.var 5) .nil))))))) .nil))))))))⟩
def b18_0 : Ss := (.cons (.drum 2 12 (.cons (.var 1) (.cons (.int 9) .nil))) (.cons (.asg (.name 3) (.call 14 (.cons (.var 2) (.cons (.lst (.cons (.int 3) (.cons (.int 4) (.cons (.bin .add (.int 3) (.call 13 (.cons (.var 2) (.cons (.int 100) .nil)))) (.cons (.bin .sub (.bin .sub (.bin .pow (.int 10) (.int 30)) (.int 4)) (.call 13 (.cons (.var 2) (.cons (.bin .pow (.int 10) (.int 9)) .nil)))) .nil))))) .nil)))) (.cons (.asg (.name 4) (.call 14 (.cons (.var 2) (.cons (.lst (.cons (.int 1) (.cons (.int 2) (.cons (.int 7) (.cons (.bin .pow (.int 10) (.int 12)) (.cons (.bin .add (.int 1) (.call 13 (.cons (.var 2) (.cons (.bin .pow (.int 10) (.int 12)) .nil)))) .nil)))))) .nil)))) (.cons (.ifs (.bop false (.cons (.not (.call 16 (.cons (.var 2) (.cons (.var 3) (.cons (.var 4) .nil))))) (.cons (.not (.call 17 (.cons (.var 2) (.cons (.var 3) (.cons (.var 4) .nil))))) .nil))) (.cons (.ret (.bl false)) .nil) .nil) .nil))))
def N18 : List Str := ["_law_script", "_law_cell", "_law_drum_so", "_law_sides_so", "_law_modulus_so", "_law_many"]
def P18 : List Str := ["_law_script"]
def d18 : Df := ⟨6, 1, (.cons (.fors (.name 1) (.seq (.slice (.bin .add (.var 0) (.lst (.cons (.int 0) (.cons (.int 1) .nil)))) .none (.some (.int 4)))) b18_0) (.cons (.ifs (.bop false (.cons (.cmp .ne (.call 7 (.cons (.bin .pow (.int 10) (.int 30)) .nil)) (.bin .add (.bin .pow (.int 10) (.int 30)) (.int 2))) (.cons (.cmp .ne (.call 8 (.cons (.bin .pow (.int 10) (.int 30)) (.cons (.int 7) .nil))) (.int 3)) (.cons (.cmp .ne (.call 11 (.cons (.bin .pow (.int 10) (.int 30)) (.cons (.int 10) .nil))) (.int 0)) .nil)))) (.cons (.ret (.bl false)) .nil) .nil) (.cons (.ifs (.cmp .ne (.comp [5] (.name 5) (.seq (.tup (.cons (.int 3) (.cons (.int 4) (.cons (.int 5) (.cons (.int 6) .nil)))))) .none (.call 8 (.cons (.var 5) (.cons (.bin .pow (.int 10) (.int 6)) .nil)))) (.lst (.cons (.int 6) (.cons (.int 24) (.cons (.int 30) (.cons (.int 72) .nil)))))) (.cons (.ret (.bl false)) .nil) .nil) (.cons (.ifs (.cmp .ne (.comp [5] (.name 5) (.seq (.tup (.cons (.int 3) (.cons (.int 4) (.cons (.int 5) .nil))))) .none (.call 10 (.cons (.var 5) (.cons (.int 1000) .nil)))) (.lst (.cons (.int 4) (.cons (.int 9) (.cons (.int 11) .nil))))) (.cons (.ret (.bl false)) .nil) .nil) (.cons (.ifs (.cmp .ne (.comp [5] (.name 5) (.seq (.tup (.cons (.int 3) (.cons (.int 4) .nil)))) .none (.call 11 (.cons (.var 5) (.cons (.int 1000) .nil)))) (.lst (.cons (.int 75) (.cons (.int 384) .nil)))) (.cons (.ret (.bl false)) .nil) .nil) (.cons (.ret (.bop true (.cons (.cmp .eq (.call 9 (.cons (.int 4) (.cons (.int 3) (.cons (.int 100) .nil)))) (.int 6)) (.cons (.cmp .eq (.call 9 (.cons (.int 4) (.cons (.int 4) (.cons (.int 1000) .nil)))) (.int 96)) (.cons (.cmp .eq (.call 9 (.cons (.int 5) (.cons (.int 3) (.cons (.int 10) .nil)))) (.int 0)) .nil))))) .nil))))))⟩
theorem c0 : chk fn dn N0 P0 (top 5) d0 = true := by decide +kernel
theorem c1 : chk fn dn N1 P1 (top 6) d1 = true := by decide +kernel
theorem c2 : chk fn dn N2 P2 (top 8) d2 = true := by decide +kernel
theorem c3 : chk fn dn N3 P3 (top 9) d3 = true := by decide +kernel
theorem c4 : chk fn dn N4 P4 (top 10) d4 = true := by decide +kernel
theorem c5 : chk fn dn N5 P5 (top 11) d5 = true := by decide +kernel
theorem c6 : chk fn dn N6 P6 (top 12) d6 = true := by decide +kernel
theorem c7 : chk fn dn N7 P7 (top 13) d7 = true := by decide +kernel
theorem c8 : chk fn dn N8 P8 (top 14) d8 = true := by decide +kernel
theorem c9 : chk fn dn N9 P9 (top 15) d9 = true := by decide +kernel
theorem c10 : chk fn dn N10 P10 (top 16) d10 = true := by decide +kernel
theorem c11 : chk fn dn N11 P11 (top 17) d11 = true := by decide +kernel
theorem c14 : chk fn dn N14 P14 (top 21) d14 = true := by decide +kernel
theorem c15 : chk fn dn N15 P15 (top 22) d15 = true := by decide +kernel
theorem c16 : chk fn dn N16 P16 (top 23) d16 = true := by decide +kernel
theorem c17 : chk fn dn N17 P17 (top 24) d17 = true := by decide +kernel
theorem c18 : chk fn dn N18 P18 (top 25) d18 = true := by decide +kernel
def defs (i : Nat) : Option Df := match i with
  | 0 => some d0
  | 1 => some d1
  | 2 => some d2
  | 3 => some d3
  | 4 => some d4
  | 5 => some d5
  | 6 => some d6
  | 7 => some d7
  | 8 => some d8
  | 9 => some d9
  | 10 => some d10
  | 11 => some d11
  | 14 => some d14
  | 15 => some d15
  | 16 => some d16
  | 17 => some d17
  | 18 => some d18
  | _ => none
end K64
end

section
set_option Elab.async false
set_option linter.all false
set_option maxRecDepth 100000
set_option maxHeartbeats 4000000
namespace K64
open PySem L2 Ev
/-! ### what is drawn from, and drawing: by hand -/
def rollM : List D → M D
  | [.keg, .dat (.int n)] => if 0 < n ∧ n.natAbs.log2 < 9000 then .roll n.toNat fun i => .ok (.dat (.int i)) else .no
  | _ => .no
def drumM : List D → M D
  | [.dat (.int _), .dat (.int t)] => if 0 ≤ t then .ok .keg else .no
  | _ => .no
def prim (i : Nat) : Option (List D → M D) := match i with
  | 12 => some drumM
  | 13 => some rollM
  | _ => none
abbrev sRoll : Stmt := top 20
abbrev sDrum : Stmt := top 19
theorem scR : FnScope ["_law_keg", "_law_many", "_law_found", "_law_deep"] ["_law_keg", "_law_many"] (defScope sRoll) := ⟨rfl, rfl, rfl, by decide +kernel, rfl, by decide +kernel, by decide +kernel⟩
theorem scD : FnScope ["_law_cell", "_law_turn", "_law_great"] ["_law_cell", "_law_turn"] (defScope sDrum) := ⟨rfl, rfl, rfl, by decide +kernel, rfl, by decide +kernel, by decide +kernel⟩
theorem reps2 {K : PySem.W.Frag} {fA : Nat → Addr} {G O : Addr → Prop} {H : Hp} {vs : List V} {d e : D} (r : Reps K fA G O H vs [d, e]) : ∃ v u, vs = [v, u] ∧ Rep K fA G O H v d ∧ Rep K fA G O H u e := by
  match vs, r with
  | [v, u], ⟨h1, h2, _⟩ => exact ⟨v, u, rfl, h1, h2⟩
theorem roll_wp {ds : List D} {Q : D → Prop} {E : Nat → Prop} (h : wp (rollM ds) Q E) : ∃ n : Int, ds = [.keg, .dat (.int n)] ∧ 0 < n ∧ n.natAbs.log2 < 9000 ∧ ∀ i : Int, 0 ≤ i → i < n → Q (.dat (.int i)) := by
  match ds, h with
  | [.keg, .dat (.int n)], h =>
    refine ⟨n, rfl, ?_⟩
    replace h : wp (if 0 < n ∧ n.natAbs.log2 < 9000 then M.roll n.toNat fun i => .ok (.dat (.int i)) else .no) Q E := h
    split at h
    · rename_i hc
      refine ⟨hc.1, hc.2, fun i h0 h1 => ?_⟩
      have q : Q (.dat (.int ((i.toNat : Nat) : Int))) := h i.toNat (by omega)
      rw [show ((i.toNat : Nat) : Int) = i by omega] at q
      exact q
    · exact h.elim
section
variable {P : Program} {w : World} {K : PySem.W.Frag} {mg : Str → Option Value} {base : Heap} {fA cA : Nat → Addr} {f : Addr} {fd : FuncData}
/-- the drawing changes the two numbers alone -/
theorem keg_ext {G O : Addr → Prop} {H : Hp} {a : Addr} {g k : Int} (wo : WOk G O H) (ga : G a) (h0 : 0 ≤ g) (h1 : 0 ≤ k) (h2 : k < 4294967296) : Ext G H (upd H a (.lst [.int g, .int k])) :=
  ⟨fun b o h n => by rw [upd_ne (fun z => n (by subst z; exact ga))]; exact h, fun b gb => by
    by_cases e : b = a
    · subst e; exact ⟨g, k, upd_same, h0, h1, h2⟩
    · obtain ⟨g', k', h, r⟩ := wo.keg b gb
      exact ⟨g', k', by rw [upd_ne e]; exact h, r⟩⟩
theorem ok_roll (F : FunD K "_law_roll" "_law_roll" (defArgs sRoll) (defBody sRoll) (defScope sRoll) [] [] f fd) (mI : mg "int" = none) :
    FnOk P w K mg base (L2.CX P w) 1 f fd ["_law_keg", "_law_many"] (spM K fA cA 2 rollM) := by
  refine F.ok scR (fun vs H Q E h => h.1) (fun cdv A outer s H vs Q E hr h => ?_)
  obtain ⟨hl, G, O, ds, wo, r, hw⟩ := h
  obtain ⟨n, rfl, hn, hn2, hq⟩ := roll_wp hw
  obtain ⟨v, u, rfl, ⟨a, rfl, ga⟩, hu⟩ := reps2 r
  have e := (show Dp K _ u (.int n) from hu).int_inv
  subst e
  obtain ⟨g, k, hk, k0, k1, k2⟩ := wo.keg a ga
  refine ⟨_, pss_cons (ps_if (pt_cmpR op_gt (pe_ix ix_list (pv 0) pe_int (fun _ _ => rfl)) pe_int (nomark _))
      (pss_cons (ps_set (i := 2) scR.nd rfl (.inl rfl) (pe_op op_mod (pe_callTy call_int1 rfl mI PyProof.Rows.boot_int (pa_cons (pe_ix ix_list (pv 0) pe_int (fun _ _ => rfl)) pa_nil)) (pv 1)))
      (pss_cons (ps_asg (pe_op op_fdivW (pe_ix ix_list (pv 0) pe_int (fun _ _ => rfl)) (pv 1)) (pg_sub (pv 0) pe_int set_list))
      (pss_one (ps_ret (pv 2))))) pss_nil)
    (pss_cons (ps_asg (pe_op op_mod (pe_callTy call_int1 rfl mI PyProof.Rows.boot_int (pa_cons (pe_op op_add (pe_op op_mul (pe_ix ix_list (pv 0) pe_int (fun _ _ => rfl)) pe_int) pe_int) pa_nil)) pe_int) (pg_sub (pv 0) pe_int set_list))
    (pss_cons (ps_set (i := 3) scR.nd rfl (.inl rfl) (pe_op op_mod (pe_callTy call_int1 rfl mI PyProof.Rows.boot_int (pa_cons (pe_op op_mulW (pe_ix ix_list (pv 0) pe_int (fun _ _ => rfl)) (pe_op op_add (pe_ix ix_list (pv 0) pe_int (fun _ _ => rfl)) pe_int)) pa_nil)) pe_int))
    (pss_one (ps_ret (pe_op op_mod (pe_callTy call_int1 rfl mI PyProof.Rows.boot_int (pa_cons (pe_op op_fdiv (pv 3) pe_int) pa_nil)) (pv 1)))))), ?_⟩
  refine ⟨_, rfl, a, _, _, _, rfl, rfl, SqL.of hk, rfl, _, _, rfl, rfl, _, rfl, ?_⟩
  by_cases hg : 0 < g
  · rw [decide_eq_true hg]
    refine iteT ?_
    refine ⟨_, rfl, a, _, _, _, rfl, rfl, SqL.of hk, rfl, .inl ⟨_, rfl, _, rfl, _, _, rfl, rfl, hn, ?_⟩⟩
    refine ⟨_, rfl, a, _, _, _, rfl, rfl, SqL.of hk, rfl, _, rfl, _, _, rfl, rfl, ⟨hn, hn2⟩, _, rfl, a, _, _, 0, rfl, rfl, hk, rfl, ?_⟩
    refine ⟨_, rfl, hq _ (Int.emod_nonneg _ (by omega)) (Int.emod_lt_of_pos _ hn) _ _ ?_ (Dp.int _)⟩
    exact keg_ext wo ga (Int.ediv_nonneg k0 (by omega)) k1 k2
  · rw [decide_eq_false hg]
    refine iteF ?_
    have m1 : (0 : Int) ≤ (k * 30671 + 8807) % 2147483549 := Int.emod_nonneg _ (by decide)
    have m2 : (k * 30671 + 8807) % 2147483549 < 2147483549 := Int.emod_lt_of_pos _ (by decide)
    generalize hk' : (k * 30671 + 8807) % 2147483549 = k' at m1 m2
    refine ⟨_, rfl, a, _, _, _, rfl, rfl, SqL.of hk, rfl, _, _, rfl, rfl, .inl ⟨by omega, by omega⟩, _, _, rfl, rfl, .inl ⟨_, rfl, _, _, rfl, rfl, by show (0 : Int) < 2147483549; decide, _, rfl, a, _, _, 1, rfl, rfl, hk, rfl, ?_⟩⟩
    have hk2 : upd H a (.lst ([V.int g, V.int k].set 1 (.int ((k * 30671 + 8807) % 2147483549)))) a = some (.lst [.int g, .int k']) := by rw [upd_same, hk']; rfl
    have eH : upd H a (.lst ([V.int g, V.int k].set 1 (.int ((k * 30671 + 8807) % 2147483549)))) = upd H a (.lst [.int g, .int k']) := by rw [hk']; rfl
    refine ⟨_, rfl, a, _, _, _, rfl, rfl, SqL.of hk2, rfl, _, rfl, a, _, _, _, rfl, rfl, SqL.of hk2, rfl, _, _, rfl, rfl, _, _, rfl, rfl, ?_, ?_⟩
    · exact wide_mul (a := 40) (b := 40) (by omega) (by omega) (by decide) (by decide) (by decide)
    refine .inl ⟨_, rfl, _, _, rfl, rfl, by show (0 : Int) < 2147483587; decide, ?_⟩
    refine ⟨_, rfl, _, _, rfl, rfl, ⟨by decide, by decide⟩, .inl ⟨_, rfl, _, rfl, _, _, rfl, rfl, hn, ?_⟩⟩
    refine hq _ (Int.emod_nonneg _ (by omega)) (Int.emod_lt_of_pos _ hn) _ _ ?_ (Dp.int _)
    rw [eH]
    exact keg_ext wo ga k0 m1 (by omega)
theorem drum_args {ds : List D} (h : drumM ds = .ok .keg) : ∃ c t : Int, ds = [.dat (.int c), .dat (.int t)] ∧ 0 ≤ t := by
  match ds, h with
  | [.dat (.int c), .dat (.int t)], h =>
    replace h : (if 0 ≤ t then M.ok D.keg else .no) = .ok .keg := h
    split at h
    · rename_i hc; exact ⟨c, t, rfl, hc⟩
    · cases h
theorem ok_drum (F : FunD K "_law_drum" "_law_drum" (defArgs sDrum) (defBody sDrum) (defScope sDrum) [] [] f fd) (mI : mg "int" = none) :
    FnOk P w K mg base (L2.CX P w) 1 f fd ["_law_cell", "_law_turn"] (spDrum fA K 2 drumM) := by
  refine F.ok scD (fun vs H Q E h => h.1) (fun cdv A outer s H vs Q E hr h => ?_)
  obtain ⟨hl, G, O, ds, wo, r, hd, hq⟩ := h
  obtain ⟨c, t, rfl, ht⟩ := drum_args hd
  obtain ⟨v, u, rfl, hv, hu⟩ := reps2 r
  have e1 := (show Dp K _ v (.int c) from hv).int_inv
  have e2 := (show Dp K _ u (.int t) from hu).int_inv
  subst e1 e2
  refine ⟨_, pss_cons (ps_set (i := 2) scD.nd rfl (.inl rfl) (pe_ifExp (pt_cmpR op_ge (pv 0) (pe_op op_pow pe_int pe_int) (nomark _)) (pe_op op_add (pe_op op_fdiv (pv 0) pe_int) (pe_op op_mul pe_int (pv 1))) pe_int))
    (pss_one (ps_ret (pe_lst (pa_cons (pv 2) (pa_cons (pe_op op_add (pe_op op_mod (pe_callTy call_int1 rfl mI PyProof.Rows.boot_int (pa_cons (pe_op op_add (pe_op op_mul (pv 0) pe_int) (pe_op op_mul pe_int (pv 1))) pa_nil)) pe_int) pe_int) pa_nil))))), ?_⟩
  have fin : ∀ g : Int, 0 ≤ g → (tRet (tLst (tCons (tVar 2) (tCons (tOp (rI0 fun i j => .int (i + j)) (tOp (rI (fun _ j => 0 < j) fun i j => .int (i % j)) (tCB (fun xs H Q => (∃ i, xs = [.int i] ∧ Q (.int i) H) ∨ ∃ k, xs = [.bl k] ∧ Q (.int (if k then 1 else 0)) H) (tCons (tOp (rI0 fun i j => .int (i + j)) (tOp (rI CMul fun i j => .int (i * j)) (tVar 0) (tC (.int 97))) (tOp (rI CMul fun i j => .int (i * j)) (tC (.int 1087)) (tVar 1))) tNil)) (tC (.int 2077504273))) (tC (.int 71))) tNil)))) { nx := fun _ H' => Q .non H', rt := Q } [some (.int c), some (.int t), some (.int g)] H := fun g hg => by
    refine ⟨_, rfl, _, rfl, _, _, rfl, rfl, .inr ⟨by decide, by decide⟩, _, rfl, _, _, rfl, rfl, .inl ⟨by decide, by decide⟩, _, _, rfl, rfl, .inl ⟨_, rfl, _, _, rfl, rfl, by show (0 : Int) < 2077504273; decide, _, _, rfl, rfl, (by show 2 ≤ sizeLine; decide), fun p hp => ?_⟩⟩
    have m1 : (0 : Int) ≤ (c * 97 + 1087 * t) % 2077504273 := Int.emod_nonneg _ (by decide)
    have m2 : (c * 97 + 1087 * t) % 2077504273 < 2077504273 := Int.emod_lt_of_pos _ (by decide)
    refine hq p _ hp (fun b o h => ?_) ⟨_, _, upd_same, hg, by omega, by omega⟩
    rw [upd_ne (ne_of_none h hp)]
    exact h
  refine ⟨_, rfl, _, _, rfl, rfl, ⟨by decide, by decide, by decide⟩, _, _, rfl, rfl, _, rfl, ?_⟩
  by_cases hc : (10 : Int) ^ (18 : Int).toNat ≤ c
  · rw [decide_eq_true hc]
    refine iteT ?_
    have c0 : (0 : Int) ≤ c := by
      have : (0 : Int) ≤ (10 : Int) ^ (18 : Int).toNat := by decide
      omega
    refine ⟨_, rfl, _, _, rfl, rfl, ⟨by decide, by decide⟩, _, rfl, _, _, rfl, rfl, .inl ⟨by decide, by decide⟩, _, _, rfl, rfl, ?_⟩
    exact fin _ (by have := Int.ediv_nonneg c0 (show (0 : Int) ≤ 7 by decide); omega)
  · rw [decide_eq_false hc]
    refine iteF ?_
    exact fin 0 (by omega)
end
end K64
end

section
set_option Elab.async false
set_option linter.all false
set_option maxRecDepth 100000
set_option maxHeartbeats 0
namespace K64
open PySem L2 Ev
def dfd (x : Str) (i : Nat) : He.DefD := ⟨(x, none), x, x, defArgs (top i), defBody (top i), defScope (top i), [], []⟩
def fnD : List He.DefD := [dfd "is_whole" 5, dfd "need_number" 6, dfd "power_by" 8, dfd "ring_hues" 9, dfd "times" 10, dfd "row_at" 11, dfd "need_sides" 12, dfd "drum_rounds" 13, dfd "drum_edge_hues" 14, dfd "drum_face_hues" 15, dfd "drum_pairings" 16, dfd "drum_trees" 17, dfd "_law_drum" 19, dfd "_law_roll" 20, dfd "_law_some" 21, dfd "_law_rest" 22, dfd "_law_right" 23, dfd "_law_faces_right" 24, dfd "law" 25]
def fa : List He.Fa := names.map He.Fa.glo ++ bltNames.map He.Fa.free
abbrev R : PySem.W.OpenRow := PySem.W.OpenLaw.row PySem.Challenge.rw_huesandrounds_k64_whole_drums_of_any_num
abbrev hk : PySem.W.Hook := He.hookD 4 fa fnD
def ob (s : PySem.W.SharedT) : He.AlD := He.obsDG 4 fa fnD (HandSHeadRun.getT s)
theorem ob_eq (s : PySem.W.SharedT) : ob s = hk.obs s.abs := He.obsDG_eq (HandSHeadRun.getT_eq s)
def loose : List Str := (["RoundError", "InvalidNumber", "InvalidSides", "is_whole", "need_number", "power_by", "ring_hues", "times", "row_at", "need_sides", "drum_rounds", "drum_edge_hues", "drum_face_hues", "drum_pairings", "drum_trees", "_law_drum", "_law_roll", "_law_some", "_law_rest", "_law_right", "_law_faces_right"] : List Str)
def steps : Nat := 2000
theorem run_top (w : World) : HandSHeadRun.RunEq R (PySem.W.view R.prog [25]) hk ob steps loose w := by
  intro os
  kernel_rfl
end K64
end

section
set_option Elab.async false
set_option linter.all false
set_option maxRecDepth 100000
set_option maxHeartbeats 2000000
namespace K64
open PySem L2 Ev
abbrev F (k : Nat) := Fk defs prim k
abbrev I (n : Int) : D := .dat (.int n)
theorem F0 (k : Nat) : F (k + 1) 0 = Ev.run (F k) d0 := rfl
theorem F1 (k : Nat) : F (k + 1) 1 = Ev.run (F k) d1 := rfl
theorem F2 (k : Nat) : F (k + 1) 2 = Ev.run (F k) d2 := rfl
theorem F3 (k : Nat) : F (k + 1) 3 = Ev.run (F k) d3 := rfl
theorem F4 (k : Nat) : F (k + 1) 4 = Ev.run (F k) d4 := rfl
theorem F5 (k : Nat) : F (k + 1) 5 = Ev.run (F k) d5 := rfl
theorem F6 (k : Nat) : F (k + 1) 6 = Ev.run (F k) d6 := rfl
theorem whole_eq (k : Nat) (v lo hi : Int) : F (k + 1) 0 [I v, I lo, I hi] = .ok (.dat (.bool (decide (lo ≤ v ∧ v ≤ hi)))) := by
  rw [F0]
  simp only [Ev.run, d0, List.length_cons, List.length_nil, ite_true, List.map, List.replicate, xss, xs, ev, evV, bind_ok, List.cons_append, List.nil_append, getV_0d, getV_s, mbl_ok, isi_d, isiV, asBl_b, Bool.not_false, cmp_le]
  by_cases h : lo ≤ v
  · simp [h, bind_ok, retD_d]
  · simp [h, bind_ok, retD_d]
theorem need_eq (k : Nat) {v lo hi : Int} (h : lo ≤ v ∧ v ≤ hi) : F (k + 2) 1 [I v, I lo, I hi] = .ok (.dat .none) := by
  rw [F1]
  simp only [Ev.run, d1, List.length_cons, List.length_nil, ite_true, List.map, List.replicate, xss, xs, evT, evs, ev, bind_ok, getV_0d, getV_s, List.cons_append, List.nil_append, whole_eq, asBl_b, decide_eq_true h, Bool.not_true]
theorem sides_eq (k : Nat) {v hi : Int} (h : 3 ≤ v ∧ v ≤ hi) : F (k + 2) 6 [I v, I hi] = .ok (.dat .none) := by
  rw [F6]
  simp only [Ev.run, d6, List.length_cons, List.length_nil, ite_true, List.map, List.replicate, xss, xs, evT, evs, ev, bind_ok, getV_0d, getV_s, List.cons_append, List.nil_append, whole_eq, asBl_b, decide_eq_true h, Bool.not_true]
/-! ### powers -/
theorem sq2 (x : Int) : x ^ 2 = x * x := by rw [Int.pow_succ, Int.pow_succ, Int.pow_zero, Int.one_mul]
abbrev E6 (a b c d e f : Int) : Ev.Env := [some (I a), some (I b), some (I c), some (I d), some (I e), some (I f)]
/-- the loop of power_by -/
theorem pow_loop (k : Nat) {one many m : Int} (hm : 0 < m) (hm2 : m ≤ 10 ^ 12) : ∀ (n N : Nat) (found left step : Int), n < N → 0 ≤ left → left < 2 ^ n → 0 ≤ found → found < m → 0 ≤ step → step < m →
    ∃ found' left' step', whileGo (evT (F k) t2_0) (xss (F k) b2_1) N (E6 one many m found left step) = .ok (.nx (E6 one many m found' left' step')) ∧
      cg m found' (found * step ^ left.toNat) ∧ 0 ≤ found' ∧ found' < m := by
  intro n
  induction n with
  | zero =>
    intro N found left step hN h0 h1 f0 f1 s0 s1
    obtain ⟨N, rfl⟩ : ∃ N', N = N' + 1 := ⟨N - 1, by omega⟩
    have e : left = 0 := by omega
    subst e
    refine ⟨found, 0, step, ?_, by simp; exact cg_refl _ _, f0, f1⟩
    rw [whileGo]
    simp only [t2_0, evT, ev, getV_s, getV_0d, bind_ok, cmp_gt, Int.lt_irrefl, decide_false]
  | succ n ih =>
    intro N found left step hN h0 h1 f0 f1 s0 s1
    obtain ⟨N, rfl⟩ : ∃ N', N = N' + 1 := ⟨N - 1, by omega⟩
    rw [whileGo]
    by_cases hl : 0 < left
    · have b40 : ∀ x : Int, 0 ≤ x → x < m → bd 40 x := fun x h h' => by
        show x.natAbs < 2 ^ 40
        have : (10 : Int) ^ 12 = 1000000000000 := by decide
        omega
      have hs2 : 0 ≤ step * step % m := Int.emod_nonneg _ (by omega)
      have hs3 : step * step % m < m := Int.emod_lt_of_pos _ hm
      have hlog : (2 : Int).natAbs.log2 < 9000 := by decide
      have hh1 : left / 2 < 2 ^ n := by rw [Int.pow_succ] at h1; omega
      by_cases hp : left % 2 = 1
      · obtain ⟨found', left', step', e, c, r⟩ := ih N (found * step % m) (left / 2) (step * step % m) (by omega) (by omega) hh1 (Int.emod_nonneg _ (by omega)) (Int.emod_lt_of_pos _ hm) hs2 hs3
        refine ⟨found', left', step', ?_, ?_, r⟩
        · rw [show evT (F k) t2_0 (E6 one many m found left step) = .ok true by simp only [t2_0, evT, ev, getV_s, getV_0d, bind_ok, cmp_gt, decide_eq_true hl]]
          rw [← e]
          simp only [bind_ok]
          rw [show xss (F k) b2_1 (E6 one many m found left step) = .ok (.nx (E6 one many m (found * step % m) (left / 2) (step * step % m))) by
            simp only [b2_1, evT, ev, getV_s, getV_0d, bind_ok, xss, xs, bin_mod (show (0 : Int) < 2 by decide), cmp_eq, decide_eq_true hp, bin_mul (bd_ok (b40 _ f0 f1) (b40 _ s0 s1) (by decide) (by decide) (by decide)), bin_mul (bd_ok (b40 _ s0 s1) (b40 _ s0 s1) (by decide) (by decide) (by decide)), bin_mod hm, asgD_name, set_s, set_0, bin_fdiv (And.intro (show (0 : Int) < 2 by decide) hlog)]]
          rfl
        · refine cg_trans c ?_
          have e1 : left.toNat = 2 * (left / 2).toNat + 1 := by omega
          have e2 : found * step ^ left.toNat = (found * step) * (step * step) ^ (left / 2).toNat := by
            rw [e1, Int.pow_succ, Int.pow_mul, sq2]
            grind
          rw [e2]
          exact cg_mul (cg_mod _ _) (cg_pow (cg_mod _ _) _)
      · obtain ⟨found', left', step', e, c, r⟩ := ih N found (left / 2) (step * step % m) (by omega) (by omega) hh1 f0 f1 hs2 hs3
        refine ⟨found', left', step', ?_, ?_, r⟩
        · rw [show evT (F k) t2_0 (E6 one many m found left step) = .ok true by simp only [t2_0, evT, ev, getV_s, getV_0d, bind_ok, cmp_gt, decide_eq_true hl]]
          rw [← e]
          simp only [bind_ok]
          rw [show xss (F k) b2_1 (E6 one many m found left step) = .ok (.nx (E6 one many m found (left / 2) (step * step % m))) by
            simp only [b2_1, evT, ev, getV_s, getV_0d, bind_ok, xss, xs, bin_mod (show (0 : Int) < 2 by decide), cmp_eq, decide_eq_false hp, bin_mul (bd_ok (b40 _ s0 s1) (b40 _ s0 s1) (by decide) (by decide) (by decide)), bin_mod hm, asgD_name, set_s, set_0, bin_fdiv (And.intro (show (0 : Int) < 2 by decide) hlog)]]
          rfl
        · refine cg_trans c ?_
          have e1 : left.toNat = 2 * (left / 2).toNat := by omega
          have e2 : found * step ^ left.toNat = found * (step * step) ^ (left / 2).toNat := by
            rw [e1, Int.pow_mul, sq2]
          rw [e2]
          exact cg_mul (cg_refl _ _) (cg_pow (cg_mod _ _) _)
    · have e : left = 0 := by omega
      subst e
      refine ⟨found, 0, step, ?_, by simp; exact cg_refl _ _, f0, f1⟩
      simp only [t2_0, evT, ev, getV_s, getV_0d, bind_ok, cmp_gt, Int.lt_irrefl, decide_false]
/-- power_by -/
theorem power_eq (k : Nat) {one many m : Int} (h0 : 0 ≤ many) (h1 : many < 2 ^ 200) (hm : 0 < m) (hm2 : m ≤ 10 ^ 12) : F (k + 1) 2 [I one, I many, I m] = .ok (I (one ^ many.toNat % m)) := by
  obtain ⟨found', left', step', e, c, r0, r1⟩ := pow_loop k (one := one) (many := many) hm hm2 200 100000 (1 % m) many (one % m) (by decide) h0 h1 (Int.emod_nonneg _ (by omega)) (Int.emod_lt_of_pos _ hm) (Int.emod_nonneg _ (by omega)) (Int.emod_lt_of_pos _ hm)
  rw [F2]
  simp only [Ev.run, d2, List.length_cons, List.length_nil, ite_true, List.map, List.replicate, xss, xs, evs, ev, bind_ok, getV_0d, getV_s, List.cons_append, List.nil_append, bin_mod hm, set_s, set_0]
  have e' := e
  unfold E6 I at e'
  rw [e']
  simp only [bind_ok, getV_s, getV_0d, retD_d]
  have hc : found' % m = one ^ many.toNat % m := cg_eq (cg_trans c (by
    have := cg_mul (cg_mod m 1) (cg_pow (cg_mod m one) many.toNat)
    rwa [Int.one_mul] at this))
  rw [← hc, Int.emod_eq_of_lt r0 r1]
end K64
end

section
set_option Elab.async false
set_option linter.all false
set_option maxRecDepth 100000
set_option maxHeartbeats 2000000
namespace K64
open PySem L2 Ev
/-! ### squares of numbers -/
structure Mt where
  a : Int
  b : Int
  c : Int
  d : Int
def Mt.mul (x y : Mt) : Mt := ⟨x.a * y.a + x.b * y.c, x.a * y.b + x.b * y.d, x.c * y.a + x.d * y.c, x.c * y.b + x.d * y.d⟩
def Mt.one : Mt := ⟨1, 0, 0, 1⟩
def Mt.pow (x : Mt) : Nat → Mt
  | 0 => Mt.one
  | n + 1 => (x.pow n).mul x
def Mt.mod (x : Mt) (m : Int) : Mt := ⟨x.a % m, x.b % m, x.c % m, x.d % m⟩
theorem Mt.ext {x y : Mt} (h1 : x.a = y.a) (h2 : x.b = y.b) (h3 : x.c = y.c) (h4 : x.d = y.d) : x = y := by
  cases x; cases y; simp_all
theorem Mt.mul_assoc (x y z : Mt) : (x.mul y).mul z = x.mul (y.mul z) := by
  apply Mt.ext <;> simp only [Mt.mul] <;> grind
theorem Mt.one_mul (x : Mt) : Mt.one.mul x = x := by
  apply Mt.ext <;> simp [Mt.mul, Mt.one]
theorem Mt.mul_one (x : Mt) : x.mul Mt.one = x := by
  apply Mt.ext <;> simp [Mt.mul, Mt.one]
theorem Mt.pow_comm (x : Mt) (n : Nat) : x.mul (x.pow n) = (x.pow n).mul x := by
  induction n with
  | zero => rw [Mt.pow, Mt.mul_one, Mt.one_mul]
  | succ n ih => rw [Mt.pow, ← Mt.mul_assoc, ih]
theorem Mt.pow_sq (x : Mt) (n : Nat) : (x.mul x).pow n = x.pow (2 * n) := by
  induction n with
  | zero => rfl
  | succ n ih =>
    rw [show 2 * (n + 1) = 2 * n + 1 + 1 by omega]
    show ((x.mul x).pow n).mul (x.mul x) = ((x.pow (2 * n)).mul x).mul x
    rw [ih, Mt.mul_assoc]
structure mcg (m : Int) (x y : Mt) : Prop where
  a : cg m x.a y.a
  b : cg m x.b y.b
  c : cg m x.c y.c
  d : cg m x.d y.d
theorem mcg.refl (m : Int) (x : Mt) : mcg m x x := ⟨cg_refl _ _, cg_refl _ _, cg_refl _ _, cg_refl _ _⟩
theorem mcg.trans {m : Int} {x y z : Mt} (h : mcg m x y) (k : mcg m y z) : mcg m x z := ⟨cg_trans h.a k.a, cg_trans h.b k.b, cg_trans h.c k.c, cg_trans h.d k.d⟩
theorem mcg.mul {m : Int} {x y z t : Mt} (h : mcg m x y) (k : mcg m z t) : mcg m (x.mul z) (y.mul t) :=
  ⟨cg_add (cg_mul h.a k.a) (cg_mul h.b k.c), cg_add (cg_mul h.a k.b) (cg_mul h.b k.d), cg_add (cg_mul h.c k.a) (cg_mul h.d k.c), cg_add (cg_mul h.c k.b) (cg_mul h.d k.d)⟩
theorem mcg.pow {m : Int} {x y : Mt} (h : mcg m x y) (n : Nat) : mcg m (x.pow n) (y.pow n) := by
  induction n with
  | zero => exact mcg.refl _ _
  | succ n ih => exact ih.mul h
theorem mcg.mod (m : Int) (x : Mt) : mcg m (x.mod m) x := ⟨cg_mod _ _, cg_mod _ _, cg_mod _ _, cg_mod _ _⟩
def Mt.small (x : Mt) : Prop := bd 45 x.a ∧ bd 45 x.b ∧ bd 45 x.c ∧ bd 45 x.d
theorem small_mod (x : Mt) {m : Int} (h : 0 < m) (h2 : m ≤ 10 ^ 12) : (x.mod m).small := by
  have key : ∀ y : Int, bd 45 (y % m) := fun y => by
    have a := Int.emod_nonneg y (show m ≠ 0 by omega)
    have b := Int.emod_lt_of_pos y h
    show (y % m).natAbs < 2 ^ 45
    have : (10 : Int) ^ 12 = 1000000000000 := by decide
    omega
  exact ⟨key _, key _, key _, key _⟩
/-- as data -/
abbrev T (x : Mt) : PyData := .tuple [.int x.a, .int x.b, .int x.c, .int x.d]
theorem times_eq (k : Nat) {x y : Mt} {m : Int} (hx : x.small) (hy : y.small) (hm : 0 < m) : F (k + 1) 4 [.dat (T x), .dat (T y), I m] = .ok (.dat (T ((x.mul y).mod m))) := by
  obtain ⟨a, b, c, d⟩ := x
  obtain ⟨e, f, g, h⟩ := y
  obtain ⟨x1, x2, x3, x4⟩ := hx
  obtain ⟨y1, y2, y3, y4⟩ := hy
  have B : ∀ {u v : Int}, bd 45 u → bd 45 v → CMulW u v := fun hu hv => bd_ok hu hv (by decide) (by decide) (by decide)
  rw [F4, run_eq (by rfl)]
  simp only [d4, v_var, v_int, v_bl, v_non, v_fn, v_bin, v_neg, v_cmp, v_chain, v_bop, v_not, v_ite, v_tup, v_lst, v_call, v_blt, v_isi, v_idx, v_slice, v_comp, t_bop', t_not', t_cmp', t_chain', t_call', t_isi', t_var', vv_one, vv_cons, vB_one, vB_cons, vK_t, vK_f, vK_t', vK_f', bK_t, bK_f, bK_t', bK_f', s_nil, s_cons, consM_ok, callM_ok, chainM_ok, chainK_t, chainK_f, chainT_ok, chainTK_t, chainTK_f, iteM_t, iteM_f, o_none', o_some', someI_i, ap1_ok, ap2_ok, ap3_ok, c_none', c_some', i_seq', mapGo_nil, mapGo_cons, mapK_s, mapK_n, compG_name, cgK_t, cgK_f, sureD_d, x_asg, asgM_name, x_par2, par2M_ok, x_par3, par3M_ok, x_drum, x_expr, exprM_ok, x_ret, x_ifs, ifM_t, ifM_f, x_while, x_for, forM_ok, forB_name, ss_nil', ss_cons', thenM_nx, thenM_rt, runM_nx, runM_rt, getV_0d, getV_0f, getV_0k, getV_s, set_0, set_s, bin_add, bin_sub, cmp_eq, cmp_ne, cmp_lt, cmp_le, cmp_gt, cmp_ge, cmpE_eq, cmpE_ne, cmpE_lt, cmpE_le, cmpE_gt, cmpE_ge, asBl_b, notD_b, notB_b, negD_i, isi_d, isiE_d, isiV, mkTup_0, mkTup_1, mkTup_2, mkTup_3, mkTup_4, mkTup_5, mkLst_0, mkLst_1, mkLst_2, mkLst_3, mkLst_4, mkLst_5, retD_d, blt_lenL, blt_tupL, blt_int, idx_l, idx_t, seq_l, seq_t, bind_ok, wipeE, List.map, List.replicate, List.cons_append, List.nil_append, List.length_cons, List.length_nil, Bool.not_true, Bool.not_false, asgM_tup, Ev.assign, assignL, items, tgLen, ite_true, bin_mul (B x1 y1), bin_mul (B x2 y3), bin_mul (B x1 y2), bin_mul (B x2 y4), bin_mul (B x3 y1), bin_mul (B x4 y3), bin_mul (B x3 y2), bin_mul (B x4 y4)]
  rw [compR_ok _ (by rfl) (by simp only [v_var, v_int, v_bl, v_non, v_fn, v_bin, v_neg, v_cmp, v_chain, v_bop, v_not, v_ite, v_tup, v_lst, v_call, v_blt, v_isi, v_idx, v_slice, v_comp, t_bop', t_not', t_cmp', t_chain', t_call', t_isi', t_var', vv_one, vv_cons, vB_one, vB_cons, vK_t, vK_f, vK_t', vK_f', bK_t, bK_f, bK_t', bK_f', s_nil, s_cons, consM_ok, callM_ok, chainM_ok, chainK_t, chainK_f, chainT_ok, chainTK_t, chainTK_f, iteM_t, iteM_f, o_none', o_some', someI_i, ap1_ok, ap2_ok, ap3_ok, c_none', c_some', i_seq', mapGo_nil, mapGo_cons, mapK_s, mapK_n, compG_name, cgK_t, cgK_f, sureD_d, x_asg, asgM_name, x_par2, par2M_ok, x_par3, par3M_ok, x_drum, x_expr, exprM_ok, x_ret, x_ifs, ifM_t, ifM_f, x_while, x_for, forM_ok, forB_name, ss_nil', ss_cons', thenM_nx, thenM_rt, runM_nx, runM_rt, getV_0d, getV_0f, getV_0k, getV_s, set_0, set_s, bin_add, bin_sub, cmp_eq, cmp_ne, cmp_lt, cmp_le, cmp_gt, cmp_ge, cmpE_eq, cmpE_ne, cmpE_lt, cmpE_le, cmpE_gt, cmpE_ge, asBl_b, notD_b, notB_b, negD_i, isi_d, isiE_d, isiV, mkTup_0, mkTup_1, mkTup_2, mkTup_3, mkTup_4, mkTup_5, mkLst_0, mkLst_1, mkLst_2, mkLst_3, mkLst_4, mkLst_5, retD_d, blt_lenL, blt_tupL, blt_int, idx_l, idx_t, seq_l, seq_t, bind_ok, wipeE, List.map, List.replicate, List.cons_append, List.nil_append, List.length_cons, List.length_nil, Bool.not_true, Bool.not_false, bin_mod hm]; rfl)]
  rfl
/-! ### rows -/
abbrev E9 (a b c d e f : Int) (x y : Mt) (l : Int) : Ev.Env := [some (I a), some (I b), some (I c), some (I d), some (I e), some (I f), some (.dat (T x)), some (.dat (T y)), some (I l)]
theorem row_loop (k : Nat) {fi se mu le ix m : Int} (hm : 0 < m) (hm2 : m ≤ 10 ^ 12) : ∀ (n N : Nat) (x y : Mt) (left : Int), n < N → 0 ≤ left → left < 2 ^ n → x.small → y.small →
    ∃ x' y' left', whileGo (evT (F (k + 1)) t5_0) (xss (F (k + 1)) b5_1) N (E9 fi se mu le ix m x y left) = .ok (.nx (E9 fi se mu le ix m x' y' left')) ∧ mcg m x' (x.mul (y.pow left.toNat)) ∧ x'.small := by
  intro n
  induction n with
  | zero =>
    intro N x y left hN h0 h1 hx hy
    obtain ⟨N, rfl⟩ : ∃ N', N = N' + 1 := ⟨N - 1, by omega⟩
    have e : left = 0 := by omega
    subst e
    refine ⟨x, y, 0, ?_, ?_, hx⟩
    · rw [while_s]
      simp only [t5_0, v_var, v_int, v_bl, v_non, v_fn, v_bin, v_neg, v_cmp, v_chain, v_bop, v_not, v_ite, v_tup, v_lst, v_call, v_blt, v_isi, v_idx, v_slice, v_comp, t_bop', t_not', t_cmp', t_chain', t_call', t_isi', t_var', vv_one, vv_cons, vB_one, vB_cons, vK_t, vK_f, vK_t', vK_f', bK_t, bK_f, bK_t', bK_f', s_nil, s_cons, consM_ok, callM_ok, chainM_ok, chainK_t, chainK_f, chainT_ok, chainTK_t, chainTK_f, iteM_t, iteM_f, o_none', o_some', someI_i, ap1_ok, ap2_ok, ap3_ok, c_none', c_some', i_seq', mapGo_nil, mapGo_cons, mapK_s, mapK_n, compG_name, cgK_t, cgK_f, sureD_d, x_asg, asgM_name, x_par2, par2M_ok, x_par3, par3M_ok, x_drum, x_expr, exprM_ok, x_ret, x_ifs, ifM_t, ifM_f, x_while, x_for, forM_ok, forB_name, ss_nil', ss_cons', thenM_nx, thenM_rt, runM_nx, runM_rt, getV_0d, getV_0f, getV_0k, getV_s, set_0, set_s, bin_add, bin_sub, cmp_eq, cmp_ne, cmp_lt, cmp_le, cmp_gt, cmp_ge, cmpE_eq, cmpE_ne, cmpE_lt, cmpE_le, cmpE_gt, cmpE_ge, asBl_b, notD_b, notB_b, negD_i, isi_d, isiE_d, isiV, mkTup_0, mkTup_1, mkTup_2, mkTup_3, mkTup_4, mkTup_5, mkLst_0, mkLst_1, mkLst_2, mkLst_3, mkLst_4, mkLst_5, retD_d, blt_lenL, blt_tupL, blt_int, idx_l, idx_t, seq_l, seq_t, bind_ok, wipeE, List.map, List.replicate, List.cons_append, List.nil_append, List.length_cons, List.length_nil, Bool.not_true, Bool.not_false, Int.lt_irrefl, decide_false, wK_f]
    · show mcg m x (x.mul Mt.one)
      rw [Mt.mul_one]
      exact mcg.refl _ _
  | succ n ih =>
    intro N x y left hN h0 h1 hx hy
    obtain ⟨N, rfl⟩ : ∃ N', N = N' + 1 := ⟨N - 1, by omega⟩
    rw [while_s]
    by_cases hl : 0 < left
    · have hlog : (2 : Int).natAbs.log2 < 9000 := by decide
      have hh1 : left / 2 < 2 ^ n := by rw [Int.pow_succ] at h1; omega
      have et : evT (F (k + 1)) t5_0 (E9 fi se mu le ix m x y left) = .ok true := by simp only [t5_0, v_var, v_int, v_bl, v_non, v_fn, v_bin, v_neg, v_cmp, v_chain, v_bop, v_not, v_ite, v_tup, v_lst, v_call, v_blt, v_isi, v_idx, v_slice, v_comp, t_bop', t_not', t_cmp', t_chain', t_call', t_isi', t_var', vv_one, vv_cons, vB_one, vB_cons, vK_t, vK_f, vK_t', vK_f', bK_t, bK_f, bK_t', bK_f', s_nil, s_cons, consM_ok, callM_ok, chainM_ok, chainK_t, chainK_f, chainT_ok, chainTK_t, chainTK_f, iteM_t, iteM_f, o_none', o_some', someI_i, ap1_ok, ap2_ok, ap3_ok, c_none', c_some', i_seq', mapGo_nil, mapGo_cons, mapK_s, mapK_n, compG_name, cgK_t, cgK_f, sureD_d, x_asg, asgM_name, x_par2, par2M_ok, x_par3, par3M_ok, x_drum, x_expr, exprM_ok, x_ret, x_ifs, ifM_t, ifM_f, x_while, x_for, forM_ok, forB_name, ss_nil', ss_cons', thenM_nx, thenM_rt, runM_nx, runM_rt, getV_0d, getV_0f, getV_0k, getV_s, set_0, set_s, bin_add, bin_sub, cmp_eq, cmp_ne, cmp_lt, cmp_le, cmp_gt, cmp_ge, cmpE_eq, cmpE_ne, cmpE_lt, cmpE_le, cmpE_gt, cmpE_ge, asBl_b, notD_b, notB_b, negD_i, isi_d, isiE_d, isiV, mkTup_0, mkTup_1, mkTup_2, mkTup_3, mkTup_4, mkTup_5, mkLst_0, mkLst_1, mkLst_2, mkLst_3, mkLst_4, mkLst_5, retD_d, blt_lenL, blt_tupL, blt_int, idx_l, idx_t, seq_l, seq_t, bind_ok, wipeE, List.map, List.replicate, List.cons_append, List.nil_append, List.length_cons, List.length_nil, Bool.not_true, Bool.not_false, decide_eq_true hl]
      rw [et, wK_t]
      by_cases hp : left % 2 = 1
      · obtain ⟨x', y', left', e, c, r⟩ := ih N ((x.mul y).mod m) ((y.mul y).mod m) (left / 2) (by omega) (by omega) hh1 (small_mod _ hm hm2) (small_mod _ hm hm2)
        refine ⟨x', y', left', ?_, ?_, r⟩
        · rw [show xss (F (k + 1)) b5_1 (E9 fi se mu le ix m x y left) = .ok (.nx (E9 fi se mu le ix m ((x.mul y).mod m) ((y.mul y).mod m) (left / 2))) by
            simp only [b5_1, v_var, v_int, v_bl, v_non, v_fn, v_bin, v_neg, v_cmp, v_chain, v_bop, v_not, v_ite, v_tup, v_lst, v_call, v_blt, v_isi, v_idx, v_slice, v_comp, t_bop', t_not', t_cmp', t_chain', t_call', t_isi', t_var', vv_one, vv_cons, vB_one, vB_cons, vK_t, vK_f, vK_t', vK_f', bK_t, bK_f, bK_t', bK_f', s_nil, s_cons, consM_ok, callM_ok, chainM_ok, chainK_t, chainK_f, chainT_ok, chainTK_t, chainTK_f, iteM_t, iteM_f, o_none', o_some', someI_i, ap1_ok, ap2_ok, ap3_ok, c_none', c_some', i_seq', mapGo_nil, mapGo_cons, mapK_s, mapK_n, compG_name, cgK_t, cgK_f, sureD_d, x_asg, asgM_name, x_par2, par2M_ok, x_par3, par3M_ok, x_drum, x_expr, exprM_ok, x_ret, x_ifs, ifM_t, ifM_f, x_while, x_for, forM_ok, forB_name, ss_nil', ss_cons', thenM_nx, thenM_rt, runM_nx, runM_rt, getV_0d, getV_0f, getV_0k, getV_s, set_0, set_s, bin_add, bin_sub, cmp_eq, cmp_ne, cmp_lt, cmp_le, cmp_gt, cmp_ge, cmpE_eq, cmpE_ne, cmpE_lt, cmpE_le, cmpE_gt, cmpE_ge, asBl_b, notD_b, notB_b, negD_i, isi_d, isiE_d, isiV, mkTup_0, mkTup_1, mkTup_2, mkTup_3, mkTup_4, mkTup_5, mkLst_0, mkLst_1, mkLst_2, mkLst_3, mkLst_4, mkLst_5, retD_d, blt_lenL, blt_tupL, blt_int, idx_l, idx_t, seq_l, seq_t, bind_ok, wipeE, List.map, List.replicate, List.cons_append, List.nil_append, List.length_cons, List.length_nil, Bool.not_true, Bool.not_false, bin_mod (show (0 : Int) < 2 by decide), decide_eq_true hp, times_eq k hx hy hm, times_eq k hy hy hm, bin_fdiv (And.intro (show (0 : Int) < 2 by decide) hlog)], wN_nx]
          exact e
        · refine c.trans ?_
          have e1 : left.toNat = 2 * (left / 2).toNat + 1 := by omega
          have e2 : x.mul (y.pow left.toNat) = (x.mul y).mul ((y.mul y).pow (left / 2).toNat) := by
            rw [e1, Mt.pow_sq, Mt.mul_assoc, Mt.pow_comm]
            rfl
          rw [e2]
          exact (mcg.mod _ _).mul ((mcg.mod _ _).pow _)
      · obtain ⟨x', y', left', e, c, r⟩ := ih N x ((y.mul y).mod m) (left / 2) (by omega) (by omega) hh1 hx (small_mod _ hm hm2)
        refine ⟨x', y', left', ?_, ?_, r⟩
        · rw [show xss (F (k + 1)) b5_1 (E9 fi se mu le ix m x y left) = .ok (.nx (E9 fi se mu le ix m x ((y.mul y).mod m) (left / 2))) by
            simp only [b5_1, v_var, v_int, v_bl, v_non, v_fn, v_bin, v_neg, v_cmp, v_chain, v_bop, v_not, v_ite, v_tup, v_lst, v_call, v_blt, v_isi, v_idx, v_slice, v_comp, t_bop', t_not', t_cmp', t_chain', t_call', t_isi', t_var', vv_one, vv_cons, vB_one, vB_cons, vK_t, vK_f, vK_t', vK_f', bK_t, bK_f, bK_t', bK_f', s_nil, s_cons, consM_ok, callM_ok, chainM_ok, chainK_t, chainK_f, chainT_ok, chainTK_t, chainTK_f, iteM_t, iteM_f, o_none', o_some', someI_i, ap1_ok, ap2_ok, ap3_ok, c_none', c_some', i_seq', mapGo_nil, mapGo_cons, mapK_s, mapK_n, compG_name, cgK_t, cgK_f, sureD_d, x_asg, asgM_name, x_par2, par2M_ok, x_par3, par3M_ok, x_drum, x_expr, exprM_ok, x_ret, x_ifs, ifM_t, ifM_f, x_while, x_for, forM_ok, forB_name, ss_nil', ss_cons', thenM_nx, thenM_rt, runM_nx, runM_rt, getV_0d, getV_0f, getV_0k, getV_s, set_0, set_s, bin_add, bin_sub, cmp_eq, cmp_ne, cmp_lt, cmp_le, cmp_gt, cmp_ge, cmpE_eq, cmpE_ne, cmpE_lt, cmpE_le, cmpE_gt, cmpE_ge, asBl_b, notD_b, notB_b, negD_i, isi_d, isiE_d, isiV, mkTup_0, mkTup_1, mkTup_2, mkTup_3, mkTup_4, mkTup_5, mkLst_0, mkLst_1, mkLst_2, mkLst_3, mkLst_4, mkLst_5, retD_d, blt_lenL, blt_tupL, blt_int, idx_l, idx_t, seq_l, seq_t, bind_ok, wipeE, List.map, List.replicate, List.cons_append, List.nil_append, List.length_cons, List.length_nil, Bool.not_true, Bool.not_false, bin_mod (show (0 : Int) < 2 by decide), decide_eq_false hp, times_eq k hy hy hm, bin_fdiv (And.intro (show (0 : Int) < 2 by decide) hlog)], wN_nx]
          exact e
        · refine c.trans ?_
          have e1 : left.toNat = 2 * (left / 2).toNat := by omega
          rw [e1, ← Mt.pow_sq]
          exact (mcg.refl _ _).mul ((mcg.mod _ _).pow _)
    · have e : left = 0 := by omega
      subst e
      refine ⟨x, y, 0, ?_, ?_, hx⟩
      · simp only [t5_0, v_var, v_int, v_bl, v_non, v_fn, v_bin, v_neg, v_cmp, v_chain, v_bop, v_not, v_ite, v_tup, v_lst, v_call, v_blt, v_isi, v_idx, v_slice, v_comp, t_bop', t_not', t_cmp', t_chain', t_call', t_isi', t_var', vv_one, vv_cons, vB_one, vB_cons, vK_t, vK_f, vK_t', vK_f', bK_t, bK_f, bK_t', bK_f', s_nil, s_cons, consM_ok, callM_ok, chainM_ok, chainK_t, chainK_f, chainT_ok, chainTK_t, chainTK_f, iteM_t, iteM_f, o_none', o_some', someI_i, ap1_ok, ap2_ok, ap3_ok, c_none', c_some', i_seq', mapGo_nil, mapGo_cons, mapK_s, mapK_n, compG_name, cgK_t, cgK_f, sureD_d, x_asg, asgM_name, x_par2, par2M_ok, x_par3, par3M_ok, x_drum, x_expr, exprM_ok, x_ret, x_ifs, ifM_t, ifM_f, x_while, x_for, forM_ok, forB_name, ss_nil', ss_cons', thenM_nx, thenM_rt, runM_nx, runM_rt, getV_0d, getV_0f, getV_0k, getV_s, set_0, set_s, bin_add, bin_sub, cmp_eq, cmp_ne, cmp_lt, cmp_le, cmp_gt, cmp_ge, cmpE_eq, cmpE_ne, cmpE_lt, cmpE_le, cmpE_gt, cmpE_ge, asBl_b, notD_b, notB_b, negD_i, isi_d, isiE_d, isiV, mkTup_0, mkTup_1, mkTup_2, mkTup_3, mkTup_4, mkTup_5, mkLst_0, mkLst_1, mkLst_2, mkLst_3, mkLst_4, mkLst_5, retD_d, blt_lenL, blt_tupL, blt_int, idx_l, idx_t, seq_l, seq_t, bind_ok, wipeE, List.map, List.replicate, List.cons_append, List.nil_append, List.length_cons, List.length_nil, Bool.not_true, Bool.not_false, Int.lt_irrefl, decide_false, wK_f]
      · show mcg m x (x.mul Mt.one)
        rw [Mt.mul_one]
        exact mcg.refl _ _
/-- the terms of a row -/
def sq (mu le : Int) : Int → Int → Nat → Int
  | x, _, 0 => x
  | x, y, n + 1 => sq mu le y (mu * y + le * x) n
theorem sq_step (mu le : Int) : ∀ (n : Nat) (x y : Int), sq mu le x y (n + 2) = mu * sq mu le x y (n + 1) + le * sq mu le x y n
  | 0, x, y => rfl
  | n + 1, x, y => sq_step mu le n y (mu * y + le * x)
theorem pow_row (mu le : Int) : ∀ (n : Nat) (x y : Int), ((Mt.mk 0 1 le mu).pow n).a * x + ((Mt.mk 0 1 le mu).pow n).b * y = sq mu le x y n
  | 0, x, y => by simp [Mt.pow, Mt.one, sq]
  | n + 1, x, y => by
    rw [sq, ← pow_row mu le n y (mu * y + le * x)]
    show ((((Mt.mk 0 1 le mu).pow n).mul ⟨0, 1, le, mu⟩).a) * x + ((((Mt.mk 0 1 le mu).pow n).mul ⟨0, 1, le, mu⟩).b) * y = _
    generalize (Mt.mk 0 1 le mu).pow n = P
    simp only [Mt.mul]
    grind
theorem row_eq (k : Nat) {fi se mu le ix m : Int} (h0 : 0 ≤ ix) (h1 : ix < 2 ^ 200) (hm : 0 < m) (hm2 : m ≤ 10 ^ 12) (b1 : bd 45 fi) (b2 : bd 45 se) (b3 : bd 45 mu) (b4 : bd 45 le) :
    F (k + 2) 5 [I fi, I se, I mu, I le, I ix, I m] = .ok (I (sq mu le fi se ix.toNat % m)) := by
  obtain ⟨x', y', left', e, c, r⟩ := row_loop k (fi := fi) (se := se) (mu := mu) (le := le) (ix := ix) hm hm2 200 100000 Mt.one ⟨0, 1, le, mu⟩ ix (by decide) h0 h1 ⟨by decide, by decide, by decide, by decide⟩ ⟨by show (0 : Int).natAbs < 2 ^ 45; decide, by show (1 : Int).natAbs < 2 ^ 45; decide, b4, b3⟩
  rw [F5, run_eq (by rfl)]
  simp only [d5, v_var, v_int, v_bl, v_non, v_fn, v_bin, v_neg, v_cmp, v_chain, v_bop, v_not, v_ite, v_tup, v_lst, v_call, v_blt, v_isi, v_idx, v_slice, v_comp, t_bop', t_not', t_cmp', t_chain', t_call', t_isi', t_var', vv_one, vv_cons, vB_one, vB_cons, vK_t, vK_f, vK_t', vK_f', bK_t, bK_f, bK_t', bK_f', s_nil, s_cons, consM_ok, callM_ok, chainM_ok, chainK_t, chainK_f, chainT_ok, chainTK_t, chainTK_f, iteM_t, iteM_f, o_none', o_some', someI_i, ap1_ok, ap2_ok, ap3_ok, c_none', c_some', i_seq', mapGo_nil, mapGo_cons, mapK_s, mapK_n, compG_name, cgK_t, cgK_f, sureD_d, x_asg, asgM_name, x_par2, par2M_ok, x_par3, par3M_ok, x_drum, x_expr, exprM_ok, x_ret, x_ifs, ifM_t, ifM_f, x_while, x_for, forM_ok, forB_name, ss_nil', ss_cons', thenM_nx, thenM_rt, runM_nx, runM_rt, getV_0d, getV_0f, getV_0k, getV_s, set_0, set_s, bin_add, bin_sub, cmp_eq, cmp_ne, cmp_lt, cmp_le, cmp_gt, cmp_ge, cmpE_eq, cmpE_ne, cmpE_lt, cmpE_le, cmpE_gt, cmpE_ge, asBl_b, notD_b, notB_b, negD_i, isi_d, isiE_d, isiV, mkTup_0, mkTup_1, mkTup_2, mkTup_3, mkTup_4, mkTup_5, mkLst_0, mkLst_1, mkLst_2, mkLst_3, mkLst_4, mkLst_5, retD_d, blt_lenL, blt_tupL, blt_int, idx_l, idx_t, seq_l, seq_t, bind_ok, wipeE, List.map, List.replicate, List.cons_append, List.nil_append, List.length_cons, List.length_nil, Bool.not_true, Bool.not_false]
  have e' := e
  unfold E9 I T Mt.one at e'
  rw [e']
  rw [Mt.one_mul] at c
  obtain ⟨r1, r2, r3, r4⟩ := r
  have B : ∀ {u v : Int}, bd 45 u → bd 45 v → CMulW u v := fun hu hv => bd_ok hu hv (by decide) (by decide) (by decide)
  have a0 : at_ [PyData.int x'.a, .int x'.b, .int x'.c, .int x'.d] 0 = .ok (.dat (.int x'.a)) := rfl
  have a1 : at_ [PyData.int x'.a, .int x'.b, .int x'.c, .int x'.d] 1 = .ok (.dat (.int x'.b)) := rfl
  simp only [v_var, v_int, v_bl, v_non, v_fn, v_bin, v_neg, v_cmp, v_chain, v_bop, v_not, v_ite, v_tup, v_lst, v_call, v_blt, v_isi, v_idx, v_slice, v_comp, t_bop', t_not', t_cmp', t_chain', t_call', t_isi', t_var', vv_one, vv_cons, vB_one, vB_cons, vK_t, vK_f, vK_t', vK_f', bK_t, bK_f, bK_t', bK_f', s_nil, s_cons, consM_ok, callM_ok, chainM_ok, chainK_t, chainK_f, chainT_ok, chainTK_t, chainTK_f, iteM_t, iteM_f, o_none', o_some', someI_i, ap1_ok, ap2_ok, ap3_ok, c_none', c_some', i_seq', mapGo_nil, mapGo_cons, mapK_s, mapK_n, compG_name, cgK_t, cgK_f, sureD_d, x_asg, asgM_name, x_par2, par2M_ok, x_par3, par3M_ok, x_drum, x_expr, exprM_ok, x_ret, x_ifs, ifM_t, ifM_f, x_while, x_for, forM_ok, forB_name, ss_nil', ss_cons', thenM_nx, thenM_rt, runM_nx, runM_rt, getV_0d, getV_0f, getV_0k, getV_s, set_0, set_s, bin_add, bin_sub, cmp_eq, cmp_ne, cmp_lt, cmp_le, cmp_gt, cmp_ge, cmpE_eq, cmpE_ne, cmpE_lt, cmpE_le, cmpE_gt, cmpE_ge, asBl_b, notD_b, notB_b, negD_i, isi_d, isiE_d, isiV, mkTup_0, mkTup_1, mkTup_2, mkTup_3, mkTup_4, mkTup_5, mkLst_0, mkLst_1, mkLst_2, mkLst_3, mkLst_4, mkLst_5, retD_d, blt_lenL, blt_tupL, blt_int, idx_l, idx_t, seq_l, seq_t, bind_ok, wipeE, List.map, List.replicate, List.cons_append, List.nil_append, List.length_cons, List.length_nil, Bool.not_true, Bool.not_false, a0, a1, bin_mul (B r1 b1), bin_mul (B r2 b2), bin_mod hm]
  have hc : (x'.a * fi + x'.b * se) % m = sq mu le fi se ix.toNat % m := by
    rw [← pow_row]
    exact cg_eq (cg_add (cg_mul c.a (cg_refl _ _)) (cg_mul c.b (cg_refl _ _)))
  rw [hc]
end K64
end

section
set_option Elab.async false
set_option linter.all false
set_option maxRecDepth 100000
set_option maxHeartbeats 2000000
namespace K64
open PySem L2 Ev
theorem F7 (k : Nat) : F (k + 1) 7 = Ev.run (F k) d7 := rfl
theorem F8 (k : Nat) : F (k + 1) 8 = Ev.run (F k) d8 := rfl
theorem F9 (k : Nat) : F (k + 1) 9 = Ev.run (F k) d9 := rfl
theorem F10 (k : Nat) : F (k + 1) 10 = Ev.run (F k) d10 := rfl
theorem F11 (k : Nat) : F (k + 1) 11 = Ev.run (F k) d11 := rfl
theorem F14 (k : Nat) : F (k + 1) 14 = Ev.run (F k) d14 := rfl
theorem F15 (k : Nat) : F (k + 1) 15 = Ev.run (F k) d15 := rfl
theorem F16 (k : Nat) : F (k + 1) 16 = Ev.run (F k) d16 := rfl
theorem F17 (k : Nat) : F (k + 1) 17 = Ev.run (F k) d17 := rfl
theorem p30 : binD .pow (.dat (.int 10)) (.dat (.int 30)) = .ok (.dat (.int 1000000000000000000000000000000)) := by rw [bin_pow (by decide)]; rfl
theorem p12 : binD .pow (.dat (.int 10)) (.dat (.int 12)) = .ok (.dat (.int 1000000000000)) := by rw [bin_pow (by decide)]; rfl
theorem p9 : binD .pow (.dat (.int 10)) (.dat (.int 9)) = .ok (.dat (.int 1000000000)) := by rw [bin_pow (by decide)]; rfl
theorem p6 : binD .pow (.dat (.int 10)) (.dat (.int 6)) = .ok (.dat (.int 1000000)) := by rw [bin_pow (by decide)]; rfl
theorem p5 : binD .pow (.dat (.int 10)) (.dat (.int 5)) = .ok (.dat (.int 100000)) := by rw [bin_pow (by decide)]; rfl
/-- a number by whether another one is even -/
def ev2 (s a b : Int) : Int := if s % 2 = 0 then a else b
theorem ev2_t {s a b : Int} (h : s % 2 = 0) : ev2 s a b = a := if_pos h
theorem ev2_f {s a b : Int} (h : ¬ s % 2 = 0) : ev2 s a b = b := if_neg h
abbrev h2 : (0 : Int) < 2 := by decide
/-- as many sides as are asked; a modulus -/
abbrev okS (s : Int) : Prop := 3 ≤ s ∧ s ≤ 1000000000000000000000000000000
abbrev okM (m : Int) : Prop := 1 ≤ m ∧ m ≤ 1000000000000
theorem okM.le {m : Int} (h : okM m) : m ≤ 10 ^ 12 := by
  have : (10 : Int) ^ 12 = 1000000000000 := by decide
  omega
theorem okS.lt {s : Int} (h : okS s) : s < 2 ^ 200 := by
  have : (2 : Int) ^ 200 = 1606938044258990275541962092341162602522202993782792835301376 := by decide
  omega
theorem rounds_eq (k : Nat) {s : Int} (h : okS s) : F (k + 3) 7 [I s] = .ok (I (s + ev2 s 2 0)) := by
  rw [F7, run_eq (by rfl)]
  by_cases hp : s % 2 = 0
  · simp only [d7, v_var, v_int, v_bl, v_non, v_fn, v_bin, v_neg, v_cmp, v_chain, v_bop, v_not, v_ite, v_tup, v_lst, v_call, v_blt, v_isi, v_idx, v_slice, v_comp, t_bop', t_not', t_cmp', t_chain', t_call', t_isi', t_var', vv_one, vv_cons, vB_one, vB_cons, vK_t, vK_f, vK_t', vK_f', bK_t, bK_f, bK_t', bK_f', s_nil, s_cons, consM_ok, callM_ok, chainM_ok, chainK_t, chainK_f, chainT_ok, chainTK_t, chainTK_f, iteM_t, iteM_f, o_none', o_some', someI_i, ap1_ok, ap2_ok, ap3_ok, c_none', c_some', i_seq', mapGo_nil, mapGo_cons, mapK_s, mapK_n, compG_name, cgK_t, cgK_f, sureD_d, x_asg, asgM_name, x_par2, par2M_ok, x_par3, par3M_ok, x_drum, x_expr, exprM_ok, x_ret, x_ifs, ifM_t, ifM_f, x_while, x_for, forM_ok, forB_name, ss_nil', ss_cons', thenM_nx, thenM_rt, runM_nx, runM_rt, getV_0d, getV_0f, getV_0k, getV_s, set_0, set_s, bin_add, bin_sub, cmp_eq, cmp_ne, cmp_lt, cmp_le, cmp_gt, cmp_ge, cmpE_eq, cmpE_ne, cmpE_lt, cmpE_le, cmpE_gt, cmpE_ge, asBl_b, notD_b, notB_b, negD_i, isi_d, isiE_d, isiV, mkTup_0, mkTup_1, mkTup_2, mkTup_3, mkTup_4, mkTup_5, mkLst_0, mkLst_1, mkLst_2, mkLst_3, mkLst_4, mkLst_5, retD_d, blt_lenL, blt_tupL, blt_int, idx_l, idx_t, seq_l, seq_t, bind_ok, wipeE, List.map, List.replicate, List.cons_append, List.nil_append, List.length_cons, List.length_nil, Bool.not_true, Bool.not_false, p30, sides_eq k h, bin_mod h2, decide_eq_true hp, ev2_t hp]
  · simp only [d7, v_var, v_int, v_bl, v_non, v_fn, v_bin, v_neg, v_cmp, v_chain, v_bop, v_not, v_ite, v_tup, v_lst, v_call, v_blt, v_isi, v_idx, v_slice, v_comp, t_bop', t_not', t_cmp', t_chain', t_call', t_isi', t_var', vv_one, vv_cons, vB_one, vB_cons, vK_t, vK_f, vK_t', vK_f', bK_t, bK_f, bK_t', bK_f', s_nil, s_cons, consM_ok, callM_ok, chainM_ok, chainK_t, chainK_f, chainT_ok, chainTK_t, chainTK_f, iteM_t, iteM_f, o_none', o_some', someI_i, ap1_ok, ap2_ok, ap3_ok, c_none', c_some', i_seq', mapGo_nil, mapGo_cons, mapK_s, mapK_n, compG_name, cgK_t, cgK_f, sureD_d, x_asg, asgM_name, x_par2, par2M_ok, x_par3, par3M_ok, x_drum, x_expr, exprM_ok, x_ret, x_ifs, ifM_t, ifM_f, x_while, x_for, forM_ok, forB_name, ss_nil', ss_cons', thenM_nx, thenM_rt, runM_nx, runM_rt, getV_0d, getV_0f, getV_0k, getV_s, set_0, set_s, bin_add, bin_sub, cmp_eq, cmp_ne, cmp_lt, cmp_le, cmp_gt, cmp_ge, cmpE_eq, cmpE_ne, cmpE_lt, cmpE_le, cmpE_gt, cmpE_ge, asBl_b, notD_b, notB_b, negD_i, isi_d, isiE_d, isiV, mkTup_0, mkTup_1, mkTup_2, mkTup_3, mkTup_4, mkTup_5, mkLst_0, mkLst_1, mkLst_2, mkLst_3, mkLst_4, mkLst_5, retD_d, blt_lenL, blt_tupL, blt_int, idx_l, idx_t, seq_l, seq_t, bind_ok, wipeE, List.map, List.replicate, List.cons_append, List.nil_append, List.length_cons, List.length_nil, Bool.not_true, Bool.not_false, p30, sides_eq k h, bin_mod h2, decide_eq_false hp, ev2_f hp]
theorem hues_eq (k : Nat) {s m : Int} (h : okS s) (hm : okM m) : F (k + 3) 8 [I s, I m] = .ok (I ((2 ^ s.toNat + ev2 s 8 (-2)) % m)) := by
  rw [F8, run_eq (by rfl), ← cg_eq (cg_add (cg_mod m (2 ^ s.toNat)) (cg_refl m (ev2 s 8 (-2))))]
  have e := power_eq (k + 1) (one := 2) (show 0 ≤ s by omega) h.lt (show 0 < m by omega) hm.le
  by_cases hp : s % 2 = 0
  · simp only [d8, v_var, v_int, v_bl, v_non, v_fn, v_bin, v_neg, v_cmp, v_chain, v_bop, v_not, v_ite, v_tup, v_lst, v_call, v_blt, v_isi, v_idx, v_slice, v_comp, t_bop', t_not', t_cmp', t_chain', t_call', t_isi', t_var', vv_one, vv_cons, vB_one, vB_cons, vK_t, vK_f, vK_t', vK_f', bK_t, bK_f, bK_t', bK_f', s_nil, s_cons, consM_ok, callM_ok, chainM_ok, chainK_t, chainK_f, chainT_ok, chainTK_t, chainTK_f, iteM_t, iteM_f, o_none', o_some', someI_i, ap1_ok, ap2_ok, ap3_ok, c_none', c_some', i_seq', mapGo_nil, mapGo_cons, mapK_s, mapK_n, compG_name, cgK_t, cgK_f, sureD_d, x_asg, asgM_name, x_par2, par2M_ok, x_par3, par3M_ok, x_drum, x_expr, exprM_ok, x_ret, x_ifs, ifM_t, ifM_f, x_while, x_for, forM_ok, forB_name, ss_nil', ss_cons', thenM_nx, thenM_rt, runM_nx, runM_rt, getV_0d, getV_0f, getV_0k, getV_s, set_0, set_s, bin_add, bin_sub, cmp_eq, cmp_ne, cmp_lt, cmp_le, cmp_gt, cmp_ge, cmpE_eq, cmpE_ne, cmpE_lt, cmpE_le, cmpE_gt, cmpE_ge, asBl_b, notD_b, notB_b, negD_i, isi_d, isiE_d, isiV, mkTup_0, mkTup_1, mkTup_2, mkTup_3, mkTup_4, mkTup_5, mkLst_0, mkLst_1, mkLst_2, mkLst_3, mkLst_4, mkLst_5, retD_d, blt_lenL, blt_tupL, blt_int, idx_l, idx_t, seq_l, seq_t, bind_ok, wipeE, List.map, List.replicate, List.cons_append, List.nil_append, List.length_cons, List.length_nil, Bool.not_true, Bool.not_false, p30, p12, sides_eq k h, need_eq k hm, e, bin_mod h2, decide_eq_true hp, ev2_t hp, bin_mod (show 0 < m by omega)]
  · simp only [d8, v_var, v_int, v_bl, v_non, v_fn, v_bin, v_neg, v_cmp, v_chain, v_bop, v_not, v_ite, v_tup, v_lst, v_call, v_blt, v_isi, v_idx, v_slice, v_comp, t_bop', t_not', t_cmp', t_chain', t_call', t_isi', t_var', vv_one, vv_cons, vB_one, vB_cons, vK_t, vK_f, vK_t', vK_f', bK_t, bK_f, bK_t', bK_f', s_nil, s_cons, consM_ok, callM_ok, chainM_ok, chainK_t, chainK_f, chainT_ok, chainTK_t, chainTK_f, iteM_t, iteM_f, o_none', o_some', someI_i, ap1_ok, ap2_ok, ap3_ok, c_none', c_some', i_seq', mapGo_nil, mapGo_cons, mapK_s, mapK_n, compG_name, cgK_t, cgK_f, sureD_d, x_asg, asgM_name, x_par2, par2M_ok, x_par3, par3M_ok, x_drum, x_expr, exprM_ok, x_ret, x_ifs, ifM_t, ifM_f, x_while, x_for, forM_ok, forB_name, ss_nil', ss_cons', thenM_nx, thenM_rt, runM_nx, runM_rt, getV_0d, getV_0f, getV_0k, getV_s, set_0, set_s, bin_add, bin_sub, cmp_eq, cmp_ne, cmp_lt, cmp_le, cmp_gt, cmp_ge, cmpE_eq, cmpE_ne, cmpE_lt, cmpE_le, cmpE_gt, cmpE_ge, asBl_b, notD_b, notB_b, negD_i, isi_d, isiE_d, isiV, mkTup_0, mkTup_1, mkTup_2, mkTup_3, mkTup_4, mkTup_5, mkLst_0, mkLst_1, mkLst_2, mkLst_3, mkLst_4, mkLst_5, retD_d, blt_lenL, blt_tupL, blt_int, idx_l, idx_t, seq_l, seq_t, bind_ok, wipeE, List.map, List.replicate, List.cons_append, List.nil_append, List.length_cons, List.length_nil, Bool.not_true, Bool.not_false, p30, p12, sides_eq k h, need_eq k hm, e, bin_mod h2, decide_eq_false hp, ev2_f hp, bin_mod (show 0 < m by omega)]
theorem pairs_eq (k : Nat) {s m : Int} (h : okS s) (hm : okM m) : F (k + 3) 10 [I s, I m] = .ok (I ((sq 1 1 2 1 s.toNat + ev2 s 2 0) % m)) := by
  rw [F10, run_eq (by rfl), ← cg_eq (cg_add (cg_mod m (sq 1 1 2 1 s.toNat)) (cg_refl m (ev2 s 2 0)))]
  have e := row_eq k (fi := 2) (se := 1) (mu := 1) (le := 1) (show 0 ≤ s by omega) h.lt (show 0 < m by omega) hm.le (by decide) (by decide) (by decide) (by decide)
  by_cases hp : s % 2 = 0
  · simp only [d10, v_var, v_int, v_bl, v_non, v_fn, v_bin, v_neg, v_cmp, v_chain, v_bop, v_not, v_ite, v_tup, v_lst, v_call, v_blt, v_isi, v_idx, v_slice, v_comp, t_bop', t_not', t_cmp', t_chain', t_call', t_isi', t_var', vv_one, vv_cons, vB_one, vB_cons, vK_t, vK_f, vK_t', vK_f', bK_t, bK_f, bK_t', bK_f', s_nil, s_cons, consM_ok, callM_ok, chainM_ok, chainK_t, chainK_f, chainT_ok, chainTK_t, chainTK_f, iteM_t, iteM_f, o_none', o_some', someI_i, ap1_ok, ap2_ok, ap3_ok, c_none', c_some', i_seq', mapGo_nil, mapGo_cons, mapK_s, mapK_n, compG_name, cgK_t, cgK_f, sureD_d, x_asg, asgM_name, x_par2, par2M_ok, x_par3, par3M_ok, x_drum, x_expr, exprM_ok, x_ret, x_ifs, ifM_t, ifM_f, x_while, x_for, forM_ok, forB_name, ss_nil', ss_cons', thenM_nx, thenM_rt, runM_nx, runM_rt, getV_0d, getV_0f, getV_0k, getV_s, set_0, set_s, bin_add, bin_sub, cmp_eq, cmp_ne, cmp_lt, cmp_le, cmp_gt, cmp_ge, cmpE_eq, cmpE_ne, cmpE_lt, cmpE_le, cmpE_gt, cmpE_ge, asBl_b, notD_b, notB_b, negD_i, isi_d, isiE_d, isiV, mkTup_0, mkTup_1, mkTup_2, mkTup_3, mkTup_4, mkTup_5, mkLst_0, mkLst_1, mkLst_2, mkLst_3, mkLst_4, mkLst_5, retD_d, blt_lenL, blt_tupL, blt_int, idx_l, idx_t, seq_l, seq_t, bind_ok, wipeE, List.map, List.replicate, List.cons_append, List.nil_append, List.length_cons, List.length_nil, Bool.not_true, Bool.not_false, p30, p12, sides_eq k h, need_eq k hm, e, bin_mod h2, decide_eq_true hp, ev2_t hp, bin_mod (show 0 < m by omega)]
  · simp only [d10, v_var, v_int, v_bl, v_non, v_fn, v_bin, v_neg, v_cmp, v_chain, v_bop, v_not, v_ite, v_tup, v_lst, v_call, v_blt, v_isi, v_idx, v_slice, v_comp, t_bop', t_not', t_cmp', t_chain', t_call', t_isi', t_var', vv_one, vv_cons, vB_one, vB_cons, vK_t, vK_f, vK_t', vK_f', bK_t, bK_f, bK_t', bK_f', s_nil, s_cons, consM_ok, callM_ok, chainM_ok, chainK_t, chainK_f, chainT_ok, chainTK_t, chainTK_f, iteM_t, iteM_f, o_none', o_some', someI_i, ap1_ok, ap2_ok, ap3_ok, c_none', c_some', i_seq', mapGo_nil, mapGo_cons, mapK_s, mapK_n, compG_name, cgK_t, cgK_f, sureD_d, x_asg, asgM_name, x_par2, par2M_ok, x_par3, par3M_ok, x_drum, x_expr, exprM_ok, x_ret, x_ifs, ifM_t, ifM_f, x_while, x_for, forM_ok, forB_name, ss_nil', ss_cons', thenM_nx, thenM_rt, runM_nx, runM_rt, getV_0d, getV_0f, getV_0k, getV_s, set_0, set_s, bin_add, bin_sub, cmp_eq, cmp_ne, cmp_lt, cmp_le, cmp_gt, cmp_ge, cmpE_eq, cmpE_ne, cmpE_lt, cmpE_le, cmpE_gt, cmpE_ge, asBl_b, notD_b, notB_b, negD_i, isi_d, isiE_d, isiV, mkTup_0, mkTup_1, mkTup_2, mkTup_3, mkTup_4, mkTup_5, mkLst_0, mkLst_1, mkLst_2, mkLst_3, mkLst_4, mkLst_5, retD_d, blt_lenL, blt_tupL, blt_int, idx_l, idx_t, seq_l, seq_t, bind_ok, wipeE, List.map, List.replicate, List.cons_append, List.nil_append, List.length_cons, List.length_nil, Bool.not_true, Bool.not_false, p30, p12, sides_eq k h, need_eq k hm, e, bin_mod h2, decide_eq_false hp, ev2_f hp, bin_mod (show 0 < m by omega)]
theorem bd_lt {n : Nat} {x : Int} {c : Int} (h0 : -c ≤ x) (h1 : x ≤ c) (hc : c.natAbs < 2 ^ n) : bd n x := by
  show x.natAbs < 2 ^ n
  omega
theorem bd_emod {x m : Int} (hm : okM m) : bd 40 (x % m) := by
  have a := Int.emod_nonneg x (show m ≠ 0 by omega)
  have b := Int.emod_lt_of_pos x (show 0 < m by omega)
  exact bd_lt (c := 1000000000000) (by omega) (by omega) (by decide)
theorem bd_s {s : Int} (h : okS s) : bd 100 s := bd_lt (c := 1000000000000000000000000000000) (by omega) (by omega) (by decide)
theorem trees_eq (k : Nat) {s m : Int} (h : okS s) (hm : okM m) : F (k + 3) 11 [I s, I m] = .ok (I (s * (sq 4 (-1) 1 2 s.toNat - 1) % m)) := by
  rw [F11, run_eq (by rfl), ← cg_eq (cg_mul (cg_refl m s) (cg_sub (cg_mod m (sq 4 (-1) 1 2 s.toNat)) (cg_refl m 1)))]
  have e := row_eq k (fi := 1) (se := 2) (mu := 4) (le := -1) (show 0 ≤ s by omega) h.lt (show 0 < m by omega) hm.le (by decide) (by decide) (by decide) (by decide)
  have b : bd 41 (sq 4 (-1) 1 2 s.toNat % m - 1) := by
    have a := Int.emod_nonneg (sq 4 (-1) 1 2 s.toNat) (show m ≠ 0 by omega)
    have b := Int.emod_lt_of_pos (sq 4 (-1) 1 2 s.toNat) (show 0 < m by omega)
    exact bd_lt (c := 1000000000001) (by omega) (by omega) (by decide)
  simp only [d11, v_var, v_int, v_bl, v_non, v_fn, v_bin, v_neg, v_cmp, v_chain, v_bop, v_not, v_ite, v_tup, v_lst, v_call, v_blt, v_isi, v_idx, v_slice, v_comp, t_bop', t_not', t_cmp', t_chain', t_call', t_isi', t_var', vv_one, vv_cons, vB_one, vB_cons, vK_t, vK_f, vK_t', vK_f', bK_t, bK_f, bK_t', bK_f', s_nil, s_cons, consM_ok, callM_ok, chainM_ok, chainK_t, chainK_f, chainT_ok, chainTK_t, chainTK_f, iteM_t, iteM_f, o_none', o_some', someI_i, ap1_ok, ap2_ok, ap3_ok, c_none', c_some', i_seq', mapGo_nil, mapGo_cons, mapK_s, mapK_n, compG_name, cgK_t, cgK_f, sureD_d, x_asg, asgM_name, x_par2, par2M_ok, x_par3, par3M_ok, x_drum, x_expr, exprM_ok, x_ret, x_ifs, ifM_t, ifM_f, x_while, x_for, forM_ok, forB_name, ss_nil', ss_cons', thenM_nx, thenM_rt, runM_nx, runM_rt, getV_0d, getV_0f, getV_0k, getV_s, set_0, set_s, bin_add, bin_sub, cmp_eq, cmp_ne, cmp_lt, cmp_le, cmp_gt, cmp_ge, cmpE_eq, cmpE_ne, cmpE_lt, cmpE_le, cmpE_gt, cmpE_ge, asBl_b, notD_b, notB_b, negD_i, isi_d, isiE_d, isiV, mkTup_0, mkTup_1, mkTup_2, mkTup_3, mkTup_4, mkTup_5, mkLst_0, mkLst_1, mkLst_2, mkLst_3, mkLst_4, mkLst_5, retD_d, blt_lenL, blt_tupL, blt_int, idx_l, idx_t, seq_l, seq_t, bind_ok, wipeE, List.map, List.replicate, List.cons_append, List.nil_append, List.length_cons, List.length_nil, Bool.not_true, Bool.not_false, p30, p12, sides_eq k h, need_eq k hm, e, bin_mul (bd_ok (bd_s h) b (by decide) (by decide) (by decide)), bin_mod (show 0 < m by omega)]
/-! ### hues of faces -/
def rg (s q m : Int) : Int := (q - 1) ^ s.toNat % m + ev2 s (q - 1) (1 - q)
theorem ring_eq (k : Nat) {s q m : Int} (h : okS s) (hm : okM m) : F (k + 2) 3 [I s, I q, I m] = .ok (I (rg s q m)) := by
  rw [F3, run_eq (by rfl)]
  have e := power_eq k (one := q - 1) (show 0 ≤ s by omega) h.lt (show 0 < m by omega) hm.le
  unfold rg
  by_cases hp : s % 2 = 0
  · simp only [d3, v_var, v_int, v_bl, v_non, v_fn, v_bin, v_neg, v_cmp, v_chain, v_bop, v_not, v_ite, v_tup, v_lst, v_call, v_blt, v_isi, v_idx, v_slice, v_comp, t_bop', t_not', t_cmp', t_chain', t_call', t_isi', t_var', vv_one, vv_cons, vB_one, vB_cons, vK_t, vK_f, vK_t', vK_f', bK_t, bK_f, bK_t', bK_f', s_nil, s_cons, consM_ok, callM_ok, chainM_ok, chainK_t, chainK_f, chainT_ok, chainTK_t, chainTK_f, iteM_t, iteM_f, o_none', o_some', someI_i, ap1_ok, ap2_ok, ap3_ok, c_none', c_some', i_seq', mapGo_nil, mapGo_cons, mapK_s, mapK_n, compG_name, cgK_t, cgK_f, sureD_d, x_asg, asgM_name, x_par2, par2M_ok, x_par3, par3M_ok, x_drum, x_expr, exprM_ok, x_ret, x_ifs, ifM_t, ifM_f, x_while, x_for, forM_ok, forB_name, ss_nil', ss_cons', thenM_nx, thenM_rt, runM_nx, runM_rt, getV_0d, getV_0f, getV_0k, getV_s, set_0, set_s, bin_add, bin_sub, cmp_eq, cmp_ne, cmp_lt, cmp_le, cmp_gt, cmp_ge, cmpE_eq, cmpE_ne, cmpE_lt, cmpE_le, cmpE_gt, cmpE_ge, asBl_b, notD_b, notB_b, negD_i, isi_d, isiE_d, isiV, mkTup_0, mkTup_1, mkTup_2, mkTup_3, mkTup_4, mkTup_5, mkLst_0, mkLst_1, mkLst_2, mkLst_3, mkLst_4, mkLst_5, retD_d, blt_lenL, blt_tupL, blt_int, idx_l, idx_t, seq_l, seq_t, bind_ok, wipeE, List.map, List.replicate, List.cons_append, List.nil_append, List.length_cons, List.length_nil, Bool.not_true, Bool.not_false, e, bin_mod h2, decide_eq_true hp, ev2_t hp]
  · simp only [d3, v_var, v_int, v_bl, v_non, v_fn, v_bin, v_neg, v_cmp, v_chain, v_bop, v_not, v_ite, v_tup, v_lst, v_call, v_blt, v_isi, v_idx, v_slice, v_comp, t_bop', t_not', t_cmp', t_chain', t_call', t_isi', t_var', vv_one, vv_cons, vB_one, vB_cons, vK_t, vK_f, vK_t', vK_f', bK_t, bK_f, bK_t', bK_f', s_nil, s_cons, consM_ok, callM_ok, chainM_ok, chainK_t, chainK_f, chainT_ok, chainTK_t, chainTK_f, iteM_t, iteM_f, o_none', o_some', someI_i, ap1_ok, ap2_ok, ap3_ok, c_none', c_some', i_seq', mapGo_nil, mapGo_cons, mapK_s, mapK_n, compG_name, cgK_t, cgK_f, sureD_d, x_asg, asgM_name, x_par2, par2M_ok, x_par3, par3M_ok, x_drum, x_expr, exprM_ok, x_ret, x_ifs, ifM_t, ifM_f, x_while, x_for, forM_ok, forB_name, ss_nil', ss_cons', thenM_nx, thenM_rt, runM_nx, runM_rt, getV_0d, getV_0f, getV_0k, getV_s, set_0, set_s, bin_add, bin_sub, cmp_eq, cmp_ne, cmp_lt, cmp_le, cmp_gt, cmp_ge, cmpE_eq, cmpE_ne, cmpE_lt, cmpE_le, cmpE_gt, cmpE_ge, asBl_b, notD_b, notB_b, negD_i, isi_d, isiE_d, isiV, mkTup_0, mkTup_1, mkTup_2, mkTup_3, mkTup_4, mkTup_5, mkLst_0, mkLst_1, mkLst_2, mkLst_3, mkLst_4, mkLst_5, retD_d, blt_lenL, blt_tupL, blt_int, idx_l, idx_t, seq_l, seq_t, bind_ok, wipeE, List.map, List.replicate, List.cons_append, List.nil_append, List.length_cons, List.length_nil, Bool.not_true, Bool.not_false, e, bin_mod h2, decide_eq_false hp, ev2_f hp]
/-- the number of the hues of faces of a drum -/
def fc (s q : Int) : Int := q * ((q - 2) ^ s.toNat + ev2 s (q - 2) (2 - q)) + q * (q - 1) * ((q - 3) ^ s.toNat + ev2 s (q - 3) (3 - q))
theorem ev2_cg {m s a b a' b' : Int} (h : cg m a a') (k : cg m b b') : cg m (ev2 s a b) (ev2 s a' b') := by
  unfold ev2
  split
  · exact h
  · exact k
theorem fc_cg {m s q q' : Int} (h : cg m q q') : cg m (fc s q) (fc s q') := by
  unfold fc
  have h1 := cg_sub h (cg_refl m 1)
  have h2 := cg_sub h (cg_refl m 2)
  have h3 := cg_sub h (cg_refl m 3)
  have g2 := cg_sub (cg_refl m 2) h
  have g3 := cg_sub (cg_refl m 3) h
  exact cg_add (cg_mul h (cg_add (cg_pow h2 _) (ev2_cg h2 g2))) (cg_mul (cg_mul h h1) (cg_add (cg_pow h3 _) (ev2_cg h3 g3)))
theorem rg_cg (s q m : Int) : cg m (rg s q m) ((q - 1) ^ s.toNat + ev2 s (q - 1) (1 - q)) := cg_add (cg_mod _ _) (cg_refl _ _)
abbrev okQ (q : Int) : Prop := 0 ≤ q ∧ q ≤ 1000000000000
theorem bd_rg {s q m : Int} (hm : okM m) (h0 : -3 ≤ q) (h1 : q ≤ 1000000000000) : bd 42 (rg s q m) := by
  have a := Int.emod_nonneg ((q - 1) ^ s.toNat) (show m ≠ 0 by omega)
  have b := Int.emod_lt_of_pos ((q - 1) ^ s.toNat) (show 0 < m by omega)
  unfold rg ev2
  refine bd_lt (c := 2000000000010) ?_ ?_ (by decide)
  · split <;> omega
  · split <;> omega
theorem face_eq (k : Nat) {s q m : Int} (h : okS s) (hq : okQ q) (hm : okM m) : F (k + 4) 9 [I s, I q, I m] = .ok (I (fc s q % m)) := by
  have e1 := ring_eq (k + 1) (q := q - 1) h hm
  have e2 := ring_eq (k + 1) (q := q - 2) h hm
  have b0 : bd 41 q := bd_lt (c := 1000000000000) (by omega) (by omega) (by decide)
  have b1 : bd 41 (q - 1) := bd_lt (c := 1000000000001) (by omega) (by omega) (by decide)
  have r1 : bd 42 (rg s (q - 1) m) := bd_rg hm (by omega) (by omega)
  have r2 : bd 42 (rg s (q - 2) m) := bd_rg hm (by omega) (by omega)
  have m1 := bd_ok b0 r1 (by decide) (by decide) (by decide)
  have m2 := bd_ok b0 b1 (by decide) (by decide) (by decide)
  have m3 := bd_ok (bd_mul b0 b1) r2 (by decide) (by decide) (by decide)
  have hc : (q * rg s (q - 1) m + q * (q - 1) * rg s (q - 2) m) % m = fc s q % m := by
    refine cg_eq (cg_add (cg_mul (cg_refl _ _) ?_) (cg_mul (cg_refl _ _) ?_))
    · refine cg_trans (rg_cg s (q - 1) m) (cg_of_eq ?_)
      rw [show q - 1 - 1 = q - 2 by omega, show 1 - (q - 1) = 2 - q by omega]
    · refine cg_trans (rg_cg s (q - 2) m) (cg_of_eq ?_)
      rw [show q - 2 - 1 = q - 3 by omega, show 1 - (q - 2) = 3 - q by omega]
  rw [F9, run_eq (by rfl), ← hc]
  simp only [d9, v_var, v_int, v_bl, v_non, v_fn, v_bin, v_neg, v_cmp, v_chain, v_bop, v_not, v_ite, v_tup, v_lst, v_call, v_blt, v_isi, v_idx, v_slice, v_comp, t_bop', t_not', t_cmp', t_chain', t_call', t_isi', t_var', vv_one, vv_cons, vB_one, vB_cons, vK_t, vK_f, vK_t', vK_f', bK_t, bK_f, bK_t', bK_f', s_nil, s_cons, consM_ok, callM_ok, chainM_ok, chainK_t, chainK_f, chainT_ok, chainTK_t, chainTK_f, iteM_t, iteM_f, o_none', o_some', someI_i, ap1_ok, ap2_ok, ap3_ok, c_none', c_some', i_seq', mapGo_nil, mapGo_cons, mapK_s, mapK_n, compG_name, cgK_t, cgK_f, sureD_d, x_asg, asgM_name, x_par2, par2M_ok, x_par3, par3M_ok, x_drum, x_expr, exprM_ok, x_ret, x_ifs, ifM_t, ifM_f, x_while, x_for, forM_ok, forB_name, ss_nil', ss_cons', thenM_nx, thenM_rt, runM_nx, runM_rt, getV_0d, getV_0f, getV_0k, getV_s, set_0, set_s, bin_add, bin_sub, cmp_eq, cmp_ne, cmp_lt, cmp_le, cmp_gt, cmp_ge, cmpE_eq, cmpE_ne, cmpE_lt, cmpE_le, cmpE_gt, cmpE_ge, asBl_b, notD_b, notB_b, negD_i, isi_d, isiE_d, isiV, mkTup_0, mkTup_1, mkTup_2, mkTup_3, mkTup_4, mkTup_5, mkLst_0, mkLst_1, mkLst_2, mkLst_3, mkLst_4, mkLst_5, retD_d, blt_lenL, blt_tupL, blt_int, idx_l, idx_t, seq_l, seq_t, bind_ok, wipeE, List.map, List.replicate, List.cons_append, List.nil_append, List.length_cons, List.length_nil, Bool.not_true, Bool.not_false, p30, p12, sides_eq (k + 1) h, need_eq (k + 1) hq, need_eq (k + 1) hm, e1, e2, bin_mul m1, bin_mul m2, bin_mul m3, bin_mod (show 0 < m by omega)]
end K64
end

section
set_option Elab.async false
set_option linter.all false
set_option maxRecDepth 100000
set_option maxHeartbeats 4000000
namespace K64
open PySem L2 Ev
theorem callvM_ok {F : Nat → List D → M D} {fs : List Nat} {es : Es} {ρ : Ev.Env} {f : Nat} (h : fs.contains f = true) : callvM F fs es ρ (.ok (.fn f)) = callM F f (evs F es ρ) := if_pos h
theorem rest_eq {k f : Nat} {s m v : Int} (hf : f = 8 ∨ f = 10 ∨ f = 11) (h : F k f [I s, I m] = .ok (I v)) (h0 : 0 ≤ v) (h1 : v < m) : F (k + 1) 15 [.fn f, I s, I m] = .ok (I v) := by
  rw [F15, run_eq (by rfl)]
  have hc : [0, 1, 2, 3, 4, 5, 6, 7, 8, 9, 10, 11, 13, 14, 15, 16, 17, 18].contains f = true := by rcases hf with rfl | rfl | rfl <;> decide
  simp only [d15, v_callv, callvM_ok hc, v_var, v_int, v_bl, v_non, v_fn, v_bin, v_neg, v_cmp, v_chain, v_bop, v_not, v_ite, v_tup, v_lst, v_call, v_blt, v_isi, v_idx, v_slice, v_comp, t_bop', t_not', t_cmp', t_chain', t_call', t_isi', t_var', vv_one, vv_cons, vB_one, vB_cons, vK_t, vK_f, vK_t', vK_f', bK_t, bK_f, bK_t', bK_f', s_nil, s_cons, consM_ok, callM_ok, chainM_ok, chainK_t, chainK_f, chainT_ok, chainTK_t, chainTK_f, iteM_t, iteM_f, o_none', o_some', someI_i, ap1_ok, ap2_ok, ap3_ok, c_none', c_some', i_seq', mapGo_nil, mapGo_cons, mapK_s, mapK_n, compG_name, cgK_t, cgK_f, sureD_d, x_asg, asgM_name, x_par2, par2M_ok, x_par3, par3M_ok, x_drum, x_expr, exprM_ok, x_ret, x_ifs, ifM_t, ifM_f, x_while, x_for, forM_ok, forB_name, ss_nil', ss_cons', thenM_nx, thenM_rt, runM_nx, runM_rt, getV_0d, getV_0f, getV_0k, getV_s, set_0, set_s, bin_add, bin_sub, cmp_eq, cmp_ne, cmp_lt, cmp_le, cmp_gt, cmp_ge, cmpE_eq, cmpE_ne, cmpE_lt, cmpE_le, cmpE_gt, cmpE_ge, asBl_b, notD_b, notB_b, negD_i, isi_d, isiE_d, isiV, mkTup_0, mkTup_1, mkTup_2, mkTup_3, mkTup_4, mkTup_5, mkLst_0, mkLst_1, mkLst_2, mkLst_3, mkLst_4, mkLst_5, retD_d, blt_lenL, blt_tupL, blt_int, idx_l, idx_t, seq_l, seq_t, bind_ok, wipeE, List.map, List.replicate, List.cons_append, List.nil_append, List.length_cons, List.length_nil, Bool.not_true, Bool.not_false, h, decide_eq_true h0, decide_eq_true h1]
/-! ### counts next to one another -/
abbrev E13 (s m : Int) (a b c d e f g h i j : Option D) : Ev.Env := [some .keg, some (I s), some (I m), a, b, c, d, e, f, g, h, i, j]
abbrev eltR (f : Nat) : E := .call 15 (.cons (.fn f) (.cons (.bin .add (.var 1) (.var 8)) (.cons (.var 2) .nil)))
section
variable {k : Nat} {s m v0 v1 v2 v3 v4 : Int} {f : Nat} (a b c d e x g h i j : Option D)
theorem comp3 (r0 : F k 15 [.fn f, I (s + 0), I m] = .ok (I v0)) (r1 : F k 15 [.fn f, I (s + 1), I m] = .ok (I v1)) (r2 : F k 15 [.fn f, I (s + 2), I m] = .ok (I v2)) :
    compR (F k) [8] (.name 8) .none (eltR f) (E13 s m a b c d e x g h i j) (.ok [.int 0, .int 1, .int 2]) = .ok (.dat (.list [.int v0, .int v1, .int v2])) :=
  compR_ok _ rfl (by simp only [v_var, v_int, v_bl, v_non, v_fn, v_bin, v_neg, v_cmp, v_chain, v_bop, v_not, v_ite, v_tup, v_lst, v_call, v_blt, v_isi, v_idx, v_slice, v_comp, t_bop', t_not', t_cmp', t_chain', t_call', t_isi', t_var', vv_one, vv_cons, vB_one, vB_cons, vK_t, vK_f, vK_t', vK_f', bK_t, bK_f, bK_t', bK_f', s_nil, s_cons, consM_ok, callM_ok, chainM_ok, chainK_t, chainK_f, chainT_ok, chainTK_t, chainTK_f, iteM_t, iteM_f, o_none', o_some', someI_i, ap1_ok, ap2_ok, ap3_ok, c_none', c_some', i_seq', mapGo_nil, mapGo_cons, mapK_s, mapK_n, compG_name, cgK_t, cgK_f, sureD_d, x_asg, asgM_name, x_par2, par2M_ok, x_par3, par3M_ok, x_drum, x_expr, exprM_ok, x_ret, x_ifs, ifM_t, ifM_f, x_while, x_for, forM_ok, forB_name, ss_nil', ss_cons', thenM_nx, thenM_rt, runM_nx, runM_rt, getV_0d, getV_0f, getV_0k, getV_s, set_0, set_s, bin_add, bin_sub, cmp_eq, cmp_ne, cmp_lt, cmp_le, cmp_gt, cmp_ge, cmpE_eq, cmpE_ne, cmpE_lt, cmpE_le, cmpE_gt, cmpE_ge, asBl_b, notD_b, notB_b, negD_i, isi_d, isiE_d, isiV, mkTup_0, mkTup_1, mkTup_2, mkTup_3, mkTup_4, mkTup_5, mkLst_0, mkLst_1, mkLst_2, mkLst_3, mkLst_4, mkLst_5, retD_d, blt_lenL, blt_tupL, blt_int, idx_l, idx_t, seq_l, seq_t, bind_ok, wipeE, List.map, List.replicate, List.cons_append, List.nil_append, List.length_cons, List.length_nil, Bool.not_true, Bool.not_false, r0, r1, r2])
theorem comp5 (r0 : F k 15 [.fn f, I (s + 0), I m] = .ok (I v0)) (r1 : F k 15 [.fn f, I (s + 1), I m] = .ok (I v1)) (r2 : F k 15 [.fn f, I (s + 2), I m] = .ok (I v2)) (r3 : F k 15 [.fn f, I (s + 3), I m] = .ok (I v3)) (r4 : F k 15 [.fn f, I (s + 4), I m] = .ok (I v4)) :
    compR (F k) [8] (.name 8) .none (eltR f) (E13 s m a b c d e x g h i j) (.ok [.int 0, .int 1, .int 2, .int 3, .int 4]) = .ok (.dat (.list [.int v0, .int v1, .int v2, .int v3, .int v4])) :=
  compR_ok _ rfl (by simp only [v_var, v_int, v_bl, v_non, v_fn, v_bin, v_neg, v_cmp, v_chain, v_bop, v_not, v_ite, v_tup, v_lst, v_call, v_blt, v_isi, v_idx, v_slice, v_comp, t_bop', t_not', t_cmp', t_chain', t_call', t_isi', t_var', vv_one, vv_cons, vB_one, vB_cons, vK_t, vK_f, vK_t', vK_f', bK_t, bK_f, bK_t', bK_f', s_nil, s_cons, consM_ok, callM_ok, chainM_ok, chainK_t, chainK_f, chainT_ok, chainTK_t, chainTK_f, iteM_t, iteM_f, o_none', o_some', someI_i, ap1_ok, ap2_ok, ap3_ok, c_none', c_some', i_seq', mapGo_nil, mapGo_cons, mapK_s, mapK_n, compG_name, cgK_t, cgK_f, sureD_d, x_asg, asgM_name, x_par2, par2M_ok, x_par3, par3M_ok, x_drum, x_expr, exprM_ok, x_ret, x_ifs, ifM_t, ifM_f, x_while, x_for, forM_ok, forB_name, ss_nil', ss_cons', thenM_nx, thenM_rt, runM_nx, runM_rt, getV_0d, getV_0f, getV_0k, getV_s, set_0, set_s, bin_add, bin_sub, cmp_eq, cmp_ne, cmp_lt, cmp_le, cmp_gt, cmp_ge, cmpE_eq, cmpE_ne, cmpE_lt, cmpE_le, cmpE_gt, cmpE_ge, asBl_b, notD_b, notB_b, negD_i, isi_d, isiE_d, isiV, mkTup_0, mkTup_1, mkTup_2, mkTup_3, mkTup_4, mkTup_5, mkLst_0, mkLst_1, mkLst_2, mkLst_3, mkLst_4, mkLst_5, retD_d, blt_lenL, blt_tupL, blt_int, idx_l, idx_t, seq_l, seq_t, bind_ok, wipeE, List.map, List.replicate, List.cons_append, List.nil_append, List.length_cons, List.length_nil, Bool.not_true, Bool.not_false, r0, r1, r2, r3, r4])
theorem compS : compR (F k) [8] (.name 8) .none (.bin .add (.var 1) (.var 8)) (E13 s m a b c d e x g h i j) (.ok [.int 0, .int 1, .int 2]) = .ok (.dat (.list [.int (s + 0), .int (s + 1), .int (s + 2)])) :=
  compR_ok _ rfl (by simp only [v_var, v_int, v_bl, v_non, v_fn, v_bin, v_neg, v_cmp, v_chain, v_bop, v_not, v_ite, v_tup, v_lst, v_call, v_blt, v_isi, v_idx, v_slice, v_comp, t_bop', t_not', t_cmp', t_chain', t_call', t_isi', t_var', vv_one, vv_cons, vB_one, vB_cons, vK_t, vK_f, vK_t', vK_f', bK_t, bK_f, bK_t', bK_f', s_nil, s_cons, consM_ok, callM_ok, chainM_ok, chainK_t, chainK_f, chainT_ok, chainTK_t, chainTK_f, iteM_t, iteM_f, o_none', o_some', someI_i, ap1_ok, ap2_ok, ap3_ok, c_none', c_some', i_seq', mapGo_nil, mapGo_cons, mapK_s, mapK_n, compG_name, cgK_t, cgK_f, sureD_d, x_asg, asgM_name, x_par2, par2M_ok, x_par3, par3M_ok, x_drum, x_expr, exprM_ok, x_ret, x_ifs, ifM_t, ifM_f, x_while, x_for, forM_ok, forB_name, ss_nil', ss_cons', thenM_nx, thenM_rt, runM_nx, runM_rt, getV_0d, getV_0f, getV_0k, getV_s, set_0, set_s, bin_add, bin_sub, cmp_eq, cmp_ne, cmp_lt, cmp_le, cmp_gt, cmp_ge, cmpE_eq, cmpE_ne, cmpE_lt, cmpE_le, cmpE_gt, cmpE_ge, asBl_b, notD_b, notB_b, negD_i, isi_d, isiE_d, isiV, mkTup_0, mkTup_1, mkTup_2, mkTup_3, mkTup_4, mkTup_5, mkLst_0, mkLst_1, mkLst_2, mkLst_3, mkLst_4, mkLst_5, retD_d, blt_lenL, blt_tupL, blt_int, idx_l, idx_t, seq_l, seq_t, bind_ok, wipeE, List.map, List.replicate, List.cons_append, List.nil_append, List.length_cons, List.length_nil, Bool.not_true, Bool.not_false])
abbrev eltL : E := .bin .sub (.idx (.var 4) (.var 8)) (.ite (.cmp .eq (.bin .mod (.bin .add (.var 1) (.var 8)) (.int 2)) (.int 0)) (.int 2) (.int 0))
theorem itm (n p q : Int) (ρ : Ev.Env) (hn : decide (n % 2 = 0) = decide (p % 2 = 0) ∨ True) : iteM (F k) (.int 2) (.int 0) ρ (.ok (decide (n % 2 = 0))) = .ok (I (ev2 n 2 0)) := by
  by_cases h : n % 2 = 0
  · rw [decide_eq_true h, iteM_t, ev2_t h]; rfl
  · rw [decide_eq_false h, iteM_f, ev2_f h]; rfl
theorem itm' (n : Int) (ρ : Ev.Env) : iteM (F k) (.int 2) (.int 0) ρ (.ok (decide (n % 2 = 0))) = .ok (I (ev2 n 2 0)) := itm n 0 0 ρ (.inr trivial)
theorem itm8 (n : Int) (ρ : Ev.Env) : iteM (F k) (.int 8) (.neg (.int 2)) ρ (.ok (decide (n % 2 = 0))) = .ok (I (ev2 n 8 (-2))) := by
  by_cases h : n % 2 = 0
  · rw [decide_eq_true h, iteM_t, ev2_t h]; rfl
  · rw [decide_eq_false h, iteM_f, ev2_f h]; rfl
theorem itm6 (n : Int) (ρ : Ev.Env) : iteM (F k) (.int 6) (.int 0) ρ (.ok (decide (n % 2 = 0))) = .ok (I (ev2 n 6 0)) := by
  by_cases h : n % 2 = 0
  · rw [decide_eq_true h, iteM_t, ev2_t h]; rfl
  · rw [decide_eq_false h, iteM_f, ev2_f h]; rfl
theorem compL : compR (F k) [8] (.name 8) .none eltL (E13 s m a (some (.dat (.list [.int v0, .int v1, .int v2, .int v3, .int v4]))) c d e x g h i j) (.ok [.int 0, .int 1, .int 2, .int 3, .int 4]) =
    .ok (.dat (.list [.int (v0 - ev2 (s + 0) 2 0), .int (v1 - ev2 (s + 1) 2 0), .int (v2 - ev2 (s + 2) 2 0), .int (v3 - ev2 (s + 3) 2 0), .int (v4 - ev2 (s + 4) 2 0)])) := by
  have a0 : at_ [PyData.int v0, .int v1, .int v2, .int v3, .int v4] 0 = .ok (.dat (.int v0)) := rfl
  have a1 : at_ [PyData.int v0, .int v1, .int v2, .int v3, .int v4] 1 = .ok (.dat (.int v1)) := rfl
  have a2 : at_ [PyData.int v0, .int v1, .int v2, .int v3, .int v4] 2 = .ok (.dat (.int v2)) := rfl
  have a3 : at_ [PyData.int v0, .int v1, .int v2, .int v3, .int v4] 3 = .ok (.dat (.int v3)) := rfl
  have a4 : at_ [PyData.int v0, .int v1, .int v2, .int v3, .int v4] 4 = .ok (.dat (.int v4)) := rfl
  exact compR_ok _ rfl (by simp only [v_var, v_int, v_bl, v_non, v_fn, v_bin, v_neg, v_cmp, v_chain, v_bop, v_not, v_ite, v_tup, v_lst, v_call, v_blt, v_isi, v_idx, v_slice, v_comp, t_bop', t_not', t_cmp', t_chain', t_call', t_isi', t_var', vv_one, vv_cons, vB_one, vB_cons, vK_t, vK_f, vK_t', vK_f', bK_t, bK_f, bK_t', bK_f', s_nil, s_cons, consM_ok, callM_ok, chainM_ok, chainK_t, chainK_f, chainT_ok, chainTK_t, chainTK_f, iteM_t, iteM_f, o_none', o_some', someI_i, ap1_ok, ap2_ok, ap3_ok, c_none', c_some', i_seq', mapGo_nil, mapGo_cons, mapK_s, mapK_n, compG_name, cgK_t, cgK_f, sureD_d, x_asg, asgM_name, x_par2, par2M_ok, x_par3, par3M_ok, x_drum, x_expr, exprM_ok, x_ret, x_ifs, ifM_t, ifM_f, x_while, x_for, forM_ok, forB_name, ss_nil', ss_cons', thenM_nx, thenM_rt, runM_nx, runM_rt, getV_0d, getV_0f, getV_0k, getV_s, set_0, set_s, bin_add, bin_sub, cmp_eq, cmp_ne, cmp_lt, cmp_le, cmp_gt, cmp_ge, cmpE_eq, cmpE_ne, cmpE_lt, cmpE_le, cmpE_gt, cmpE_ge, asBl_b, notD_b, notB_b, negD_i, isi_d, isiE_d, isiV, mkTup_0, mkTup_1, mkTup_2, mkTup_3, mkTup_4, mkTup_5, mkLst_0, mkLst_1, mkLst_2, mkLst_3, mkLst_4, mkLst_5, retD_d, blt_lenL, blt_tupL, blt_int, idx_l, idx_t, seq_l, seq_t, bind_ok, wipeE, List.map, List.replicate, List.cons_append, List.nil_append, List.length_cons, List.length_nil, Bool.not_true, Bool.not_false, a0, a1, a2, a3, a4, bin_mod h2, itm'])
end
theorem range3 : range1D (.dat (.int 3)) = .ok [.int 0, .int 1, .int 2] := rfl
theorem range5 : range1D (.dat (.int 5)) = .ok [.int 0, .int 1, .int 2, .int 3, .int 4] := rfl
theorem no_none (a b c d e f g h i j k : Int) : inD .none [.int a, .int b, .int c, .int d, .int e, .int f, .int g, .int h, .int i, .int j, .int k] = .ok false := rfl
theorem cmp_in (x : PyData) (ys : List PyData) : cmpD .isin (.dat x) (.dat (.list ys)) = inD x ys := by cases x <;> rfl
/-- one turn of the loop over the row of pairings -/
theorem lucas_turn {k : Nat} {s m x y z : Int} {ρ : Ev.Env} {l : List PyData} {t : Int} (hm : 0 < m) (g7 : getV ρ 7 = .ok (.dat (.list l))) (g8 : getV ρ 8 = .ok (I t)) (g2 : getV ρ 2 = .ok (I m)) (a0 : at_ l t = .ok (I x)) (a1 : at_ l (t + 1) = .ok (I y)) (a2 : at_ l (t + 2) = .ok (I z)) (hz : (z - y - x) % m = 0) :
    xss (F k) b16_0 ρ = .ok (.nx ρ) := by
  simp only [b16_0, v_var, v_int, v_bl, v_non, v_fn, v_bin, v_neg, v_cmp, v_chain, v_bop, v_not, v_ite, v_tup, v_lst, v_call, v_blt, v_isi, v_idx, v_slice, v_comp, t_bop', t_not', t_cmp', t_chain', t_call', t_isi', t_var', vv_one, vv_cons, vB_one, vB_cons, vK_t, vK_f, vK_t', vK_f', bK_t, bK_f, bK_t', bK_f', s_nil, s_cons, consM_ok, callM_ok, chainM_ok, chainK_t, chainK_f, chainT_ok, chainTK_t, chainTK_f, iteM_t, iteM_f, o_none', o_some', someI_i, ap1_ok, ap2_ok, ap3_ok, c_none', c_some', i_seq', mapGo_nil, mapGo_cons, mapK_s, mapK_n, compG_name, cgK_t, cgK_f, sureD_d, x_asg, asgM_name, x_par2, par2M_ok, x_par3, par3M_ok, x_drum, x_expr, exprM_ok, x_ret, x_ifs, ifM_t, ifM_f, x_while, x_for, forM_ok, forB_name, ss_nil', ss_cons', thenM_nx, thenM_rt, runM_nx, runM_rt, getV_0d, getV_0f, getV_0k, getV_s, set_0, set_s, bin_add, bin_sub, cmp_eq, cmp_ne, cmp_lt, cmp_le, cmp_gt, cmp_ge, cmpE_eq, cmpE_ne, cmpE_lt, cmpE_le, cmpE_gt, cmpE_ge, asBl_b, notD_b, notB_b, negD_i, isi_d, isiE_d, isiV, mkTup_0, mkTup_1, mkTup_2, mkTup_3, mkTup_4, mkTup_5, mkLst_0, mkLst_1, mkLst_2, mkLst_3, mkLst_4, mkLst_5, retD_d, blt_lenL, blt_tupL, blt_int, idx_l, idx_t, seq_l, seq_t, bind_ok, wipeE, List.map, List.replicate, List.cons_append, List.nil_append, List.length_cons, List.length_nil, Bool.not_true, Bool.not_false, g7, g8, g2, a0, a1, a2, bin_mod hm, hz, decide_true]
theorem pow_s {s : Int} (h : 3 ≤ s) (j : Nat) : (2 : Int) ^ (s + j).toNat = 2 ^ s.toNat * 2 ^ j := by
  rw [show (s + (j : Int)).toNat = s.toNat + j by omega, Int.pow_add]
theorem sq_s {mu le x y : Int} {s : Int} (h : 3 ≤ s) (j : Nat) : sq mu le x y (s + ((j + 2 : Nat) : Int)).toNat = mu * sq mu le x y (s + ((j + 1 : Nat) : Int)).toNat + le * sq mu le x y (s + (j : Int)).toNat := by
  rw [show (s + ((j + 2 : Nat) : Int)).toNat = (s + (j : Int)).toNat + 2 by omega, show (s + ((j + 1 : Nat) : Int)).toNat = (s + (j : Int)).toNat + 1 by omega]
  exact sq_step _ _ _ _ _
/-- the three sums that are asked of the counts, by the modulus -/
theorem hues_sum1 {m A e : Int} {h0 h2 : Int} (c0 : cg m h0 (A + e)) (c2 : cg m h2 (4 * A + e)) : (h2 - e - 4 * (h0 - e)) % m = 0 := by
  refine cg_zero (cg_trans (cg_sub (cg_sub c2 (cg_refl m e)) (cg_mul (cg_refl m 4) (cg_sub c0 (cg_refl m e)))) (cg_of_eq ?_))
  omega
theorem hues_sum2 {m A e e' : Int} {h0 h1 : Int} (c0 : cg m h0 (A + e)) (c1 : cg m h1 (2 * A + e')) (he : e + e' = 6) : (h1 + h0 - 6 - 3 * (h0 - e)) % m = 0 := by
  refine cg_zero (cg_trans (cg_sub (cg_sub (cg_add c1 c0) (cg_refl m 6)) (cg_mul (cg_refl m 3) (cg_sub c0 (cg_refl m e)))) (cg_of_eq ?_))
  omega
theorem pair_sum {m a b c x y z ea eb ec : Int} (ha : cg m x (a + ea)) (hb : cg m y (b + eb)) (hc : cg m z (c + ec)) (h : c = 1 * b + 1 * a) : (z - ec - (y - eb) - (x - ea)) % m = 0 := by
  refine cg_zero (cg_trans (cg_sub (cg_sub (cg_sub hc (cg_refl m ec)) (cg_sub hb (cg_refl m eb))) (cg_sub ha (cg_refl m ea))) (cg_of_eq ?_))
  omega
theorem tree_sum {m s t0 t1 t2 r0 r1 r2 : Int} (h0 : cg m t0 ((s + 0) * (r0 - 1))) (h1 : cg m t1 ((s + 1) * (r1 - 1))) (h2 : cg m t2 ((s + 2) * (r2 - 1))) (h : r2 = 4 * r1 + (-1) * r0) :
    ((s + 2) * (s + 1) * t0 - 4 * (s + 2) * (s + 0) * t1 + (s + 1) * (s + 0) * t2 - 2 * (s + 0) * (s + 1) * (s + 2)) % m = 0 := by
  refine cg_zero (cg_trans (cg_sub (cg_add (cg_sub (cg_mul (cg_refl m ((s + 2) * (s + 1))) h0) (cg_mul (cg_refl m (4 * (s + 2) * (s + 0))) h1)) (cg_mul (cg_refl m ((s + 1) * (s + 0))) h2)) (cg_refl m (2 * (s + 0) * (s + 1) * (s + 2)))) (cg_of_eq ?_))
  subst h
  grind
end K64
end

section
set_option Elab.async false
set_option linter.all false
set_option maxRecDepth 100000
set_option maxHeartbeats 4000000
namespace K64
open PySem L2 Ev
theorem range1E {F : Nat → List D → M D} (ρ : Ev.Env) (n : Int) : evI F (.range1 (.int n)) ρ = range1D (.dat (.int n)) := rfl
theorem emod_in (x : Int) {m : Int} (hm : okM m) : 0 ≤ x % m ∧ x % m < m := ⟨Int.emod_nonneg _ (by omega), Int.emod_lt_of_pos _ (by omega)⟩
theorem right_eq (k : Nat) {s m : Int} (h : 3 ≤ s ∧ s ≤ 999999999999999999999999999996) (hm : okM m) : F (k + 5) 16 [.keg, I s, I m] = .ok (.dat (.bool true)) := by
  have hm0 : 0 < m := by omega
  have o0 : okS (s + 0) := by omega
  have o1 : okS (s + 1) := by omega
  have o2 : okS (s + 2) := by omega
  have o3 : okS (s + 3) := by omega
  have o4 : okS (s + 4) := by omega
  have oo : okS s := by omega
  -- the counts
  generalize eh0 : (2 ^ (s + 0).toNat + ev2 (s + 0) 8 (-2)) % m = x0
  generalize eh1 : (2 ^ (s + 1).toNat + ev2 (s + 1) 8 (-2)) % m = x1
  generalize eh2 : (2 ^ (s + 2).toNat + ev2 (s + 2) 8 (-2)) % m = x2
  generalize ep0 : (sq 1 1 2 1 (s + 0).toNat + ev2 (s + 0) 2 0) % m = y0
  generalize ep1 : (sq 1 1 2 1 (s + 1).toNat + ev2 (s + 1) 2 0) % m = y1
  generalize ep2 : (sq 1 1 2 1 (s + 2).toNat + ev2 (s + 2) 2 0) % m = y2
  generalize ep3 : (sq 1 1 2 1 (s + 3).toNat + ev2 (s + 3) 2 0) % m = y3
  generalize ep4 : (sq 1 1 2 1 (s + 4).toNat + ev2 (s + 4) 2 0) % m = y4
  generalize et0 : (s + 0) * (sq 4 (-1) 1 2 (s + 0).toNat - 1) % m = z0
  generalize et1 : (s + 1) * (sq 4 (-1) 1 2 (s + 1).toNat - 1) % m = z1
  generalize et2 : (s + 2) * (sq 4 (-1) 1 2 (s + 2).toNat - 1) % m = z2
  have R : ∀ {f : Nat} {t v w : Int}, (f = 8 ∨ f = 10 ∨ f = 11) → F (k + 3) f [I t, I m] = .ok (I (w % m)) → w % m = v → F (k + 4) 15 [.fn f, I t, I m] = .ok (I v) := fun hf e hv => by
    subst hv
    exact rest_eq hf e (emod_in _ hm).1 (emod_in _ hm).2
  have c1 := fun a b c d e x g h i j => comp3 (k := k + 4) a b c d e x g h i j (R (.inl rfl) (hues_eq k o0 hm) eh0) (R (.inl rfl) (hues_eq k o1 hm) eh1) (R (.inl rfl) (hues_eq k o2 hm) eh2)
  have c2 := fun a b c d e x g h i j => comp5 (k := k + 4) a b c d e x g h i j (R (.inr (.inl rfl)) (pairs_eq k o0 hm) ep0) (R (.inr (.inl rfl)) (pairs_eq k o1 hm) ep1) (R (.inr (.inl rfl)) (pairs_eq k o2 hm) ep2) (R (.inr (.inl rfl)) (pairs_eq k o3 hm) ep3) (R (.inr (.inl rfl)) (pairs_eq k o4 hm) ep4)
  have c3 := fun a b c d e x g h i j => comp3 (k := k + 4) a b c d e x g h i j (R (.inr (.inr rfl)) (trees_eq k o0 hm) et0) (R (.inr (.inr rfl)) (trees_eq k o1 hm) et1) (R (.inr (.inr rfl)) (trees_eq k o2 hm) et2)
  have cx : ∀ {w v : Int}, w % m = v → cg m v w := fun e => by subst e; exact cg_mod _ _
  have P : ∀ j : Nat, (2 : Int) ^ (s + (j : Int)).toNat = 2 ^ s.toNat * 2 ^ j := pow_s (by omega)
  have hs0 : (2 : Int) ^ (s + 0).toNat = 2 ^ s.toNat := by rw [Int.add_zero]
  have hs1 : (2 : Int) ^ (s + 1).toNat = 2 * 2 ^ s.toNat := by have := P 1; simp only [Int.pow_succ, Int.pow_zero] at this; push_cast at this; omega
  have hs2 : (2 : Int) ^ (s + 2).toNat = 4 * 2 ^ s.toNat := by have := P 2; simp only [Int.pow_succ, Int.pow_zero] at this; push_cast at this; omega
  have e0 : ev2 (s + 0) 8 (-2) = ev2 s 8 (-2) := by rw [Int.add_zero]
  have e2 : ev2 (s + 2) 8 (-2) = ev2 s 8 (-2) := by unfold ev2; rw [show (s + 2) % 2 = s % 2 by omega]
  have e01 : ev2 s 8 (-2) + ev2 (s + 1) 8 (-2) = 6 := by unfold ev2; split <;> split <;> omega
  have g0 := cx eh0
  have g1 := cx eh1
  have g2 := cx eh2
  rw [hs0, e0] at g0
  rw [hs1] at g1
  rw [hs2, e2] at g2
  have w1 := hues_sum1 g0 g2
  have w2 := hues_sum2 g0 g1 e01
  have L : ∀ j : Nat, sq 1 1 2 1 (s + ((j + 2 : Nat) : Int)).toNat = 1 * sq 1 1 2 1 (s + ((j + 1 : Nat) : Int)).toNat + 1 * sq 1 1 2 1 (s + (j : Int)).toNat := sq_s (by omega)
  have u0 := pair_sum (cx ep0) (cx ep1) (cx ep2) (L 0)
  have u1 := pair_sum (cx ep1) (cx ep2) (cx ep3) (L 1)
  have u2 := pair_sum (cx ep2) (cx ep3) (cx ep4) (L 2)
  have w3 := tree_sum (cx et0) (cx et1) (cx et2) (sq_s (mu := 4) (le := -1) (x := 1) (y := 2) (s := s) (by omega) 0)
  -- sizes
  have b : ∀ {w v : Int}, w % m = v → bd 40 v := fun e => by subst e; exact bd_emod hm
  have bs0 := bd_s o0
  have bs1 := bd_s o1
  have bs2 := bd_s o2
  have be : bd 4 (ev2 s 8 (-2)) := by unfold ev2; split <;> decide
  have k4 : bd 4 4 := by decide
  have k3 : bd 4 3 := by decide
  have k2 : bd 4 2 := by decide
  have bx : bd 41 (x0 - ev2 s 8 (-2)) := by
    have := emod_in (2 ^ (s + 0).toNat + ev2 (s + 0) 8 (-2)) hm
    rw [eh0] at this
    have h1 : ev2 s 8 (-2) ≤ 8 ∧ -2 ≤ ev2 s 8 (-2) := by unfold ev2; split <;> omega
    exact bd_lt (c := 1000000000010) (by omega) (by omega) (by decide)
  have ok' : ∀ {p q : Nat} {u v : Int}, bd p u → bd q v → 0 < p → 0 < q → p + q ≤ 1000000 → CMulW u v := fun h1 h2 h3 h4 h5 => bd_ok h1 h2 h3 h4 h5
  have n1 := ok' k4 bx (by decide) (by decide) (by decide)
  have n2 := ok' k3 bx (by decide) (by decide) (by decide)
  have n3 := ok' bs2 bs1 (by decide) (by decide) (by decide)
  have n4 := ok' (bd_mul bs2 bs1) (b et0) (by decide) (by decide) (by decide)
  have n5 := ok' k4 bs2 (by decide) (by decide) (by decide)
  have n6 := ok' (bd_mul k4 bs2) bs0 (by decide) (by decide) (by decide)
  have n7 := ok' (bd_mul (bd_mul k4 bs2) bs0) (b et1) (by decide) (by decide) (by decide)
  have n8 := ok' bs1 bs0 (by decide) (by decide) (by decide)
  have n9 := ok' (bd_mul bs1 bs0) (b et2) (by decide) (by decide) (by decide)
  have n10 := ok' k2 bs0 (by decide) (by decide) (by decide)
  have n11 := ok' (bd_mul k2 bs0) bs1 (by decide) (by decide) (by decide)
  have n12 := ok' (bd_mul (bd_mul k2 bs0) bs1) bs2 (by decide) (by decide) (by decide)
  have hx : ∀ a b c : PyData, at_ [a, b, c] 0 = .ok (.dat a) ∧ at_ [a, b, c] 1 = .ok (.dat b) ∧ at_ [a, b, c] 2 = .ok (.dat c) := fun _ _ _ => ⟨rfl, rfl, rfl⟩
  have hr : s + ev2 s 2 0 - s = ev2 s 2 0 := by omega
  rw [F16, run_eq (by rfl)]
  simp only [d16, range1E, range3, range5, c1, c2, c3, compS, compL, v_var, v_int, v_bl, v_non, v_fn, v_bin, v_neg, v_cmp, v_chain, v_bop, v_not, v_ite, v_tup, v_lst, v_call, v_blt, v_isi, v_idx, v_slice, v_comp, t_bop', t_not', t_cmp', t_chain', t_call', t_isi', t_var', vv_one, vv_cons, vB_one, vB_cons, vK_t, vK_f, vK_t', vK_f', bK_t, bK_f, bK_t', bK_f', s_nil, s_cons, consM_ok, callM_ok, chainM_ok, chainK_t, chainK_f, chainT_ok, chainTK_t, chainTK_f, iteM_t, iteM_f, o_none', o_some', someI_i, ap1_ok, ap2_ok, ap3_ok, c_none', c_some', i_seq', mapGo_nil, mapGo_cons, mapK_s, mapK_n, compG_name, cgK_t, cgK_f, sureD_d, x_asg, asgM_name, x_par2, par2M_ok, x_par3, par3M_ok, x_drum, x_expr, exprM_ok, x_ret, x_ifs, ifM_t, ifM_f, x_while, x_for, forM_ok, forB_name, ss_nil', ss_cons', thenM_nx, thenM_rt, runM_nx, runM_rt, getV_0d, getV_0f, getV_0k, getV_s, set_0, set_s, bin_add, bin_sub, cmp_eq, cmp_ne, cmp_lt, cmp_le, cmp_gt, cmp_ge, cmpE_eq, cmpE_ne, cmpE_lt, cmpE_le, cmpE_gt, cmpE_ge, asBl_b, notD_b, notB_b, negD_i, isi_d, isiE_d, isiV, mkTup_0, mkTup_1, mkTup_2, mkTup_3, mkTup_4, mkTup_5, mkLst_0, mkLst_1, mkLst_2, mkLst_3, mkLst_4, mkLst_5, retD_d, blt_lenL, blt_tupL, blt_int, idx_l, idx_t, seq_l, seq_t, bind_ok, wipeE, List.map, List.replicate, List.cons_append, List.nil_append, List.length_cons, List.length_nil, Bool.not_true, Bool.not_false, bin_cat (xs := [PyData.int x0, .int x1, .int x2]) (ys := [PyData.int y0, .int y1, .int y2, .int y3, .int y4]) rfl, bin_cat (xs := [PyData.int x0, .int x1, .int x2, .int y0, .int y1, .int y2, .int y3, .int y4]) (ys := [PyData.int z0, .int z1, .int z2]) rfl,
    cmp_in, no_none, rounds_eq (k + 1) oo, hr, bin_mod h2, itm', itm8, (hx _ _ _).1, (hx _ _ _).2.1, (hx _ _ _).2.2, bin_mul n1, bin_mul n2, bin_mod hm0, w1, w2, decide_true]
  rw [forGo_cons, forB_name, lucas_turn (t := 0) (s := s) hm0 rfl rfl rfl rfl rfl rfl u0, fN_nx, forGo_cons, forB_name, lucas_turn (t := 1) (s := s) hm0 rfl rfl rfl rfl rfl rfl u1, fN_nx, forGo_cons, forB_name, lucas_turn (t := 2) (s := s) hm0 rfl rfl rfl rfl rfl rfl u2, fN_nx, forGo_nil]
  simp only [range1E, range3, compS, v_var, v_int, v_bl, v_non, v_fn, v_bin, v_neg, v_cmp, v_chain, v_bop, v_not, v_ite, v_tup, v_lst, v_call, v_blt, v_isi, v_idx, v_slice, v_comp, t_bop', t_not', t_cmp', t_chain', t_call', t_isi', t_var', vv_one, vv_cons, vB_one, vB_cons, vK_t, vK_f, vK_t', vK_f', bK_t, bK_f, bK_t', bK_f', s_nil, s_cons, consM_ok, callM_ok, chainM_ok, chainK_t, chainK_f, chainT_ok, chainTK_t, chainTK_f, iteM_t, iteM_f, o_none', o_some', someI_i, ap1_ok, ap2_ok, ap3_ok, c_none', c_some', i_seq', mapGo_nil, mapGo_cons, mapK_s, mapK_n, compG_name, cgK_t, cgK_f, sureD_d, x_asg, asgM_name, x_par2, par2M_ok, x_par3, par3M_ok, x_drum, x_expr, exprM_ok, x_ret, x_ifs, ifM_t, ifM_f, x_while, x_for, forM_ok, forB_name, ss_nil', ss_cons', thenM_nx, thenM_rt, runM_nx, runM_rt, getV_0d, getV_0f, getV_0k, getV_s, set_0, set_s, bin_add, bin_sub, cmp_eq, cmp_ne, cmp_lt, cmp_le, cmp_gt, cmp_ge, cmpE_eq, cmpE_ne, cmpE_lt, cmpE_le, cmpE_gt, cmpE_ge, asBl_b, notD_b, notB_b, negD_i, isi_d, isiE_d, isiV, mkTup_0, mkTup_1, mkTup_2, mkTup_3, mkTup_4, mkTup_5, mkLst_0, mkLst_1, mkLst_2, mkLst_3, mkLst_4, mkLst_5, retD_d, blt_lenL, blt_tupL, blt_int, idx_l, idx_t, seq_l, seq_t, bind_ok, wipeE, List.map, List.replicate, List.cons_append, List.nil_append, List.length_cons, List.length_nil, Bool.not_true, Bool.not_false, asgM_tup, Ev.assign, assignL, items, tgLen, ite_true, (hx _ _ _).1, (hx _ _ _).2.1, (hx _ _ _).2.2, bin_mul n3, bin_mul n4, bin_mul n5, bin_mul n6, bin_mul n7, bin_mul n8, bin_mul n9, bin_mul n10, bin_mul n11, bin_mul n12, bin_mod hm0, w3, decide_true]
/-! ### the hues of faces beside those of edges -/
theorem ones (n : Nat) : (1 : Int) ^ n = 1 := Int.one_pow
theorem zeros {n : Nat} (h : n ≠ 0) : (0 : Int) ^ n = 0 := Int.zero_pow h
theorem neg_ones {s : Int} (h : 0 ≤ s) : (-1 : Int) ^ s.toNat = ev2 s 1 (-1) := by
  have key : ∀ n : Nat, (-1 : Int) ^ (2 * n) = 1 := fun n => by rw [Int.pow_mul]; simp [sq2, ones]
  unfold ev2
  split
  · rw [show s.toNat = 2 * (s.toNat / 2) by omega, key]
  · rw [show s.toNat = 2 * (s.toNat / 2) + 1 by omega, Int.pow_succ, key]; rfl
theorem fc0 (s : Int) : fc s 0 = 0 := by unfold fc; simp
theorem fc1 {s : Int} (h : 3 ≤ s) : fc s 1 = 0 := by
  unfold fc
  rw [show (1 : Int) - 2 = -1 by rfl, neg_ones (by omega)]
  unfold ev2
  split <;> omega
theorem fc2 {s : Int} (h : 3 ≤ s) : fc s 2 = 0 := by
  unfold fc
  rw [show (2 : Int) - 2 = 0 by rfl, show (2 : Int) - 3 = -1 by rfl, neg_ones (by omega), zeros (by omega)]
  unfold ev2
  split <;> omega
theorem fc3 {s : Int} (h : 3 ≤ s) : fc s 3 = ev2 s 6 0 := by
  unfold fc
  rw [show (3 : Int) - 2 = 1 by rfl, show (3 : Int) - 3 = 0 by rfl, ones, zeros (by omega)]
  unfold ev2
  split <;> omega
theorem fc4 (s : Int) : fc s 4 = 4 * (2 ^ s.toNat + ev2 s 8 (-2)) := by
  unfold fc
  rw [show (4 : Int) - 2 = 2 by rfl, show (4 : Int) - 3 = 1 by rfl, ones]
  unfold ev2
  split <;> omega
theorem four_sum {s m : Int} : (fc s 4 % m - 4 * ((2 ^ s.toNat + ev2 s 8 (-2)) % m)) % m = 0 := by
  refine cg_zero (cg_trans (cg_sub (cg_mod m (fc s 4)) (cg_mul (cg_refl m 4) (cg_mod m _))) (cg_of_eq ?_))
  rw [fc4]
  omega
theorem roll_at (k : Nat) {n : Int} (h : 0 < n ∧ n.natAbs.log2 < 9000) : F (k + 1) 13 [.keg, I n] = .roll n.toNat fun i => .ok (I i) := if_pos h
abbrev E9k (s m : Int) (a b c d e f : Option D) : Ev.Env := [some .keg, some (I s), some (I m), a, b, c, d, e, f]
theorem compF (k : Nat) {s m : Int} (h : okS s) (a b c d e f : Option D) : compR (F (k + 4)) [8] (.name 8) .none (.call 9 (.cons (.var 1) (.cons (.var 8) (.cons (.int 100) .nil)))) (E9k s m a b c d e f) (.ok [.int 0, .int 1, .int 2, .int 3]) = .ok (.dat (.list [.int (fc s 0 % 100), .int (fc s 1 % 100), .int (fc s 2 % 100), .int (fc s 3 % 100)])) := by
  have hm : okM 100 := by omega
  have e0 := face_eq k (q := 0) h (by omega) hm
  have e1 := face_eq k (q := 1) h (by omega) hm
  have e2 := face_eq k (q := 2) h (by omega) hm
  have e3 := face_eq k (q := 3) h (by omega) hm
  exact compR_ok _ rfl (by simp only [v_var, v_int, v_bl, v_non, v_fn, v_bin, v_neg, v_cmp, v_chain, v_bop, v_not, v_ite, v_tup, v_lst, v_call, v_blt, v_isi, v_idx, v_slice, v_comp, t_bop', t_not', t_cmp', t_chain', t_call', t_isi', t_var', vv_one, vv_cons, vB_one, vB_cons, vK_t, vK_f, vK_t', vK_f', bK_t, bK_f, bK_t', bK_f', s_nil, s_cons, consM_ok, callM_ok, chainM_ok, chainK_t, chainK_f, chainT_ok, chainTK_t, chainTK_f, iteM_t, iteM_f, o_none', o_some', someI_i, ap1_ok, ap2_ok, ap3_ok, c_none', c_some', i_seq', mapGo_nil, mapGo_cons, mapK_s, mapK_n, compG_name, cgK_t, cgK_f, sureD_d, x_asg, asgM_name, x_par2, par2M_ok, x_par3, par3M_ok, x_drum, x_expr, exprM_ok, x_ret, x_ifs, ifM_t, ifM_f, x_while, x_for, forM_ok, forB_name, ss_nil', ss_cons', thenM_nx, thenM_rt, runM_nx, runM_rt, getV_0d, getV_0f, getV_0k, getV_s, set_0, set_s, bin_add, bin_sub, cmp_eq, cmp_ne, cmp_lt, cmp_le, cmp_gt, cmp_ge, cmpE_eq, cmpE_ne, cmpE_lt, cmpE_le, cmpE_gt, cmpE_ge, asBl_b, notD_b, notB_b, negD_i, isi_d, isiE_d, isiV, mkTup_0, mkTup_1, mkTup_2, mkTup_3, mkTup_4, mkTup_5, mkLst_0, mkLst_1, mkLst_2, mkLst_3, mkLst_4, mkLst_5, retD_d, blt_lenL, blt_tupL, blt_int, idx_l, idx_t, seq_l, seq_t, bind_ok, wipeE, List.map, List.replicate, List.cons_append, List.nil_append, List.length_cons, List.length_nil, Bool.not_true, Bool.not_false, e0, e1, e2, e3])
theorem eq4 (a b c d a' b' c' d' : Int) (h : a = a' ∧ b = b' ∧ c = c' ∧ d = d') : cmpE .eq (.dat (.list [.int a, .int b, .int c, .int d])) (.dat (.list [.int a', .int b', .int c', .int d'])) = .ok (.dat (.bool true)) := by
  obtain ⟨rfl, rfl, rfl, rfl⟩ := h
  show mbl (eqD (.list [.int a, .int b, .int c, .int d]) (.list [.int a, .int b, .int c, .int d])) = _
  have e : PyData.eqv (.list [.int a, .int b, .int c, .int d]) (.list [.int a, .int b, .int c, .int d]) = true := SeqAt.eqv_refl _ rfl
  have e2 : eqD (.list [.int a, .int b, .int c, .int d]) (.list [.int a, .int b, .int c, .int d]) = .ok (PyData.eqv (.list [.int a, .int b, .int c, .int d]) (.list [.int a, .int b, .int c, .int d])) := rfl
  rw [e2, e]
  rfl
theorem faces_wp (k : Nat) {s m : Int} (h : okS s) (hm : okM m) {Q : D → Prop} {E : Nat → Prop} (hQ : Q (.dat (.bool true))) : Wp (F (k + 5) 17 [.keg, I s, I m]) Q E := by
  have hm0 : 0 < m := by omega
  have b4 : bd 4 4 := by decide
  have n1 := bd_ok b4 (bd_emod (x := 2 ^ s.toNat + ev2 s 8 (-2)) hm) (by decide) (by decide) (by decide)
  have f4 := face_eq k (q := 4) h (by omega) hm
  have hu := hues_eq (k + 1) h hm
  rw [F17, run_eq (by rfl)]
  simp only [d17, v_var, v_int, v_bl, v_non, v_fn, v_bin, v_neg, v_cmp, v_chain, v_bop, v_not, v_ite, v_tup, v_lst, v_call, v_blt, v_isi, v_idx, v_slice, v_comp, t_bop', t_not', t_cmp', t_chain', t_call', t_isi', t_var', vv_one, vv_cons, vB_one, vB_cons, vK_t, vK_f, vK_t', vK_f', bK_t, bK_f, bK_t', bK_f', s_nil, s_cons, consM_ok, callM_ok, chainM_ok, chainK_t, chainK_f, chainT_ok, chainTK_t, chainTK_f, iteM_t, iteM_f, o_none', o_some', someI_i, ap1_ok, ap2_ok, ap3_ok, c_none', c_some', i_seq', mapGo_nil, mapGo_cons, mapK_s, mapK_n, compG_name, cgK_t, cgK_f, sureD_d, x_asg, asgM_name, x_par2, par2M_ok, x_par3, par3M_ok, x_drum, x_expr, exprM_ok, x_ret, x_ifs, ifM_t, ifM_f, x_while, x_for, forM_ok, forB_name, ss_nil', ss_cons', thenM_nx, thenM_rt, runM_nx, runM_rt, getV_0d, getV_0f, getV_0k, getV_s, set_0, set_s, bin_add, bin_sub, cmp_eq, cmp_ne, cmp_lt, cmp_le, cmp_gt, cmp_ge, cmpE_eq, cmpE_ne, cmpE_lt, cmpE_le, cmpE_gt, cmpE_ge, asBl_b, notD_b, notB_b, negD_i, isi_d, isiE_d, isiV, mkTup_0, mkTup_1, mkTup_2, mkTup_3, mkTup_4, mkTup_5, mkLst_0, mkLst_1, mkLst_2, mkLst_3, mkLst_4, mkLst_5, retD_d, blt_lenL, blt_tupL, blt_int, idx_l, idx_t, seq_l, seq_t, bind_ok, wipeE, List.map, List.replicate, List.cons_append, List.nil_append, List.length_cons, List.length_nil, Bool.not_true, Bool.not_false, f4, hu, bin_mul n1, bin_mod hm0, four_sum, decide_true, p12, p5, roll_at (k + 3) (n := 1000000000000) (by decide), roll_at (k + 3) (n := 100000) (by decide)]
  refine W_runM ?_
  refine W_thenM ?_
  refine W_par2M ?_
  refine W_roll fun i hi => ?_
  refine W_ok ?_
  refine W_ap2 ?_
  refine W_ok ?_
  refine W_roll fun j hj => ?_
  refine W_ok ?_
  rw [bin_add]
  refine W_ok ?_
  replace hi : i < 1000000000000 := hi
  replace hj : j < 100000 := hj
  have hq : okQ (i : Int) := by omega
  have hp : okM (1 + (j : Int)) := by omega
  have hpk : okM ((1 + (j : Int)) * 1000) := by omega
  have bp : bd 20 (1 + (j : Int)) := bd_lt (c := 100001) (by omega) (by omega) (by decide)
  have b10 : bd 10 1000 := by decide
  have n2 := bd_ok bp b10 (by decide) (by decide) (by decide)
  have w1 := face_eq k h hq hpk
  have w2 := face_eq k h hq hp
  have w3 := face_eq k (q := (i : Int) % 1000) (m := 1000) h (by omega) (by omega)
  have v1 : fc s i % ((1 + (j : Int)) * 1000) % (1 + (j : Int)) = fc s i % (1 + (j : Int)) := cg_eq (cg_dvd (cg_mod _ _) ⟨1000, rfl⟩)
  have v2 : fc s i % ((1 + (j : Int)) * 1000) % 1000 = fc s ((i : Int) % 1000) % 1000 := by
    refine cg_eq (cg_trans (cg_dvd (cg_mod _ _) ⟨1 + (j : Int), by rw [Int.mul_comm]⟩) (cg_symm (fc_cg (cg_mod _ _))))
  have v3 : 0 < 1 + (j : Int) := by omega
  have c := compF k (m := m) h
  have e4 : ∀ x, x = ev2 s 6 0 → cmpE .eq (.dat (.list [.int (fc s 0 % 100), .int (fc s 1 % 100), .int (fc s 2 % 100), .int (fc s 3 % 100)])) (.dat (.list [.int 0, .int 0, .int 0, .int x])) = .ok (.dat (.bool true)) := fun x hx => eq4 _ _ _ _ _ _ _ _ (by
    rw [fc0, fc1 (by omega), fc2 (by omega), fc3 (by omega), hx]
    refine ⟨rfl, rfl, rfl, ?_⟩
    unfold ev2
    split <;> rfl)
  simp only [v_var, v_int, v_bl, v_non, v_fn, v_bin, v_neg, v_cmp, v_chain, v_bop, v_not, v_ite, v_tup, v_lst, v_call, v_blt, v_isi, v_idx, v_slice, v_comp, t_bop', t_not', t_cmp', t_chain', t_call', t_isi', t_var', vv_one, vv_cons, vB_one, vB_cons, vK_t, vK_f, vK_t', vK_f', bK_t, bK_f, bK_t', bK_f', s_nil, s_cons, consM_ok, callM_ok, chainM_ok, chainK_t, chainK_f, chainT_ok, chainTK_t, chainTK_f, iteM_t, iteM_f, o_none', o_some', someI_i, ap1_ok, ap2_ok, ap3_ok, c_none', c_some', i_seq', mapGo_nil, mapGo_cons, mapK_s, mapK_n, compG_name, cgK_t, cgK_f, sureD_d, x_asg, asgM_name, x_par2, par2M_ok, x_par3, par3M_ok, x_drum, x_expr, exprM_ok, x_ret, x_ifs, ifM_t, ifM_f, x_while, x_for, forM_ok, forB_name, ss_nil', ss_cons', thenM_nx, thenM_rt, runM_nx, runM_rt, getV_0d, getV_0f, getV_0k, getV_s, set_0, set_s, bin_add, bin_sub, cmp_eq, cmp_ne, cmp_lt, cmp_le, cmp_gt, cmp_ge, cmpE_eq, cmpE_ne, cmpE_lt, cmpE_le, cmpE_gt, cmpE_ge, asBl_b, notD_b, notB_b, negD_i, isi_d, isiE_d, isiV, mkTup_0, mkTup_1, mkTup_2, mkTup_3, mkTup_4, mkTup_5, mkLst_0, mkLst_1, mkLst_2, mkLst_3, mkLst_4, mkLst_5, retD_d, blt_lenL, blt_tupL, blt_int, idx_l, idx_t, seq_l, seq_t, bind_ok, wipeE, List.map, List.replicate, List.cons_append, List.nil_append, List.length_cons, List.length_nil, Bool.not_true, Bool.not_false, bin_mul n2, w1, w2, w3, bin_mod v3, bin_mod (show (0 : Int) < 1000 by decide), v1, v2, decide_true, bin_mod h2, itm6, c, e4 _ rfl]
  exact W_ok (W_ok hQ)
end K64
end

section
set_option Elab.async false
set_option linter.all false
set_option maxRecDepth 100000
set_option maxHeartbeats 400000
namespace K64
open PySem L2 Ev
/-! ### the law -/
theorem some_at (k : Nat) (xs : List PyData) (h : 0 < xs.length) (h2 : xs.length < 1000) : F (k + 2) 14 [.keg, .dat (.list xs)] = .roll xs.length fun i => runM (thenM (F (k + 1)) .nil (ap1 retD (at_ xs i))) := by
  rw [F14, run_eq (by rfl)]
  have hl : (xs.length : Int).natAbs.log2 < 9000 := by
    have : xs.length.log2 ≤ xs.length := Nat.log2_le_self _
    show xs.length.log2 < 9000
    omega
  simp only [d14, v_var, v_int, v_bl, v_non, v_fn, v_bin, v_neg, v_cmp, v_chain, v_bop, v_not, v_ite, v_tup, v_lst, v_call, v_blt, v_isi, v_idx, v_slice, v_comp, t_bop', t_not', t_cmp', t_chain', t_call', t_isi', t_var', vv_one, vv_cons, vB_one, vB_cons, vK_t, vK_f, vK_t', vK_f', bK_t, bK_f, bK_t', bK_f', s_nil, s_cons, consM_ok, callM_ok, chainM_ok, chainK_t, chainK_f, chainT_ok, chainTK_t, chainTK_f, iteM_t, iteM_f, o_none', o_some', someI_i, ap1_ok, ap2_ok, ap3_ok, c_none', c_some', i_seq', mapGo_nil, mapGo_cons, mapK_s, mapK_n, compG_name, cgK_t, cgK_f, sureD_d, x_asg, asgM_name, x_par2, par2M_ok, x_par3, par3M_ok, x_drum, x_expr, exprM_ok, x_ret, x_ifs, ifM_t, ifM_f, x_while, x_for, forM_ok, forB_name, ss_nil', ss_cons', thenM_nx, thenM_rt, runM_nx, runM_rt, getV_0d, getV_0f, getV_0k, getV_s, set_0, set_s, bin_add, bin_sub, cmp_eq, cmp_ne, cmp_lt, cmp_le, cmp_gt, cmp_ge, cmpE_eq, cmpE_ne, cmpE_lt, cmpE_le, cmpE_gt, cmpE_ge, asBl_b, notD_b, notB_b, negD_i, isi_d, isiE_d, isiV, mkTup_0, mkTup_1, mkTup_2, mkTup_3, mkTup_4, mkTup_5, mkLst_0, mkLst_1, mkLst_2, mkLst_3, mkLst_4, mkLst_5, retD_d, blt_lenL, blt_tupL, blt_int, idx_l, idx_t, seq_l, seq_t, bind_ok, wipeE, List.map, List.replicate, List.cons_append, List.nil_append, List.length_cons, List.length_nil, Bool.not_true, Bool.not_false, roll_at k (n := (xs.length : Int)) ⟨by omega, hl⟩, Int.toNat_natCast]
  rfl
/-- what a test of a closed call asks -/
def isI (m : M D) (n : Int) : Bool := match m with
  | .ok (.dat (.int i)) => decide (i = n)
  | _ => false
theorem isI_of {m : M D} {n : Int} (h : isI m n = true) : m = .ok (I n) := by
  unfold isI at h
  split at h
  · rw [of_decide_eq_true h]
  · cases h
theorem at_in {xs : List PyData} {t : Nat} (h : t < xs.length) : ∃ x, x ∈ xs ∧ at_ xs (t : Int) = .ok (.dat x) := by
  refine ⟨xs[t], List.getElem_mem h, ?_⟩
  unfold at_
  rw [atI_nat (List.getElem?_eq_getElem h)]
abbrev c30 : Int := 1000000000000000000000000000000
/-- one of some things, drawn -/
theorem some_wp {n : Nat} (hn : 2 ≤ n) {xs : List PyData} {Q : D → Prop} {E : Nat → Prop} (h : 0 < xs.length) (h2 : xs.length < 1000) (hq : ∀ x, x ∈ xs → Q (.dat x)) : Wp (F n 14 [.keg, .dat (.list xs)]) Q E := by
  obtain ⟨k, rfl⟩ : ∃ k, n = k + 2 := ⟨n - 2, by omega⟩
  rw [some_at k xs h h2]
  refine W_roll fun i hi => ?_
  obtain ⟨x, hx, ex⟩ := at_in hi
  rw [ex, ap1_ok, retD_d, thenM_rt, runM_rt]
  exact W_ok (hq x hx)
theorem roll_w {l : Nat} (hl : 1 ≤ l) {n : Int} {Q : D → Prop} {E : Nat → Prop} (h : 0 < n ∧ n.natAbs.log2 < 9000) (hq : ∀ i : Int, 0 ≤ i → i < n → Q (I i)) : Wp (F l 13 [.keg, I n]) Q E := by
  obtain ⟨k, rfl⟩ : ∃ k, l = k + 1 := ⟨l - 1, by omega⟩
  rw [roll_at k h]
  refine W_roll fun i hi => W_ok (hq i (by omega) (by omega))
theorem faces_wp' {n : Nat} (hn : 5 ≤ n) {s m : Int} (h : okS s) (hm : okM m) {Q : D → Prop} {E : Nat → Prop} (hQ : Q (.dat (.bool true))) : Wp (F n 17 [.keg, I s, I m]) Q E := by
  obtain ⟨k, rfl⟩ : ∃ k, n = k + 5 := ⟨n - 5, by omega⟩
  exact faces_wp k h hm hQ
theorem turn_wp {n : Nat} (hn : 6 ≤ n) {c : Int} {sc a b d e : Option D} {Q : Ev.Flow → Prop} {E : Nat → Prop} (hQ : ∀ a b d, Q (.nx [sc, some (I c), a, b, d, e])) : Wp (xss (F n) b18_0 [sc, some (I c), a, b, d, e]) Q E := by
  obtain ⟨k, rfl⟩ : ∃ k, n = k + 6 := ⟨n - 6, by omega⟩
  have hd : F (k + 6) 12 [I c, I 9] = .ok .keg := rfl
  rw [b18_0]
  simp only [v_var, v_int, v_bl, v_non, v_fn, v_bin, v_neg, v_cmp, v_chain, v_bop, v_not, v_ite, v_tup, v_lst, v_call, v_blt, v_isi, v_idx, v_slice, v_comp, t_bop', t_not', t_cmp', t_chain', t_call', t_isi', t_var', vv_one, vv_cons, vB_one, vB_cons, vK_t, vK_f, vK_t', vK_f', bK_t, bK_f, bK_t', bK_f', s_nil, s_cons, consM_ok, callM_ok, chainM_ok, chainK_t, chainK_f, chainT_ok, chainTK_t, chainTK_f, iteM_t, iteM_f, o_none', o_some', someI_i, ap1_ok, ap2_ok, ap3_ok, c_none', c_some', i_seq', mapGo_nil, mapGo_cons, mapK_s, mapK_n, compG_name, cgK_t, cgK_f, sureD_d, x_asg, asgM_name, x_par2, par2M_ok, x_par3, par3M_ok, x_drum, x_expr, exprM_ok, x_ret, x_ifs, ifM_t, ifM_f, x_while, x_for, forM_ok, forB_name, ss_nil', ss_cons', thenM_nx, thenM_rt, runM_nx, runM_rt, getV_0d, getV_0f, getV_0k, getV_s, set_0, set_s, bin_add, bin_sub, cmp_eq, cmp_ne, cmp_lt, cmp_le, cmp_gt, cmp_ge, cmpE_eq, cmpE_ne, cmpE_lt, cmpE_le, cmpE_gt, cmpE_ge, asBl_b, notD_b, notB_b, negD_i, isi_d, isiE_d, isiV, mkTup_0, mkTup_1, mkTup_2, mkTup_3, mkTup_4, mkTup_5, mkLst_0, mkLst_1, mkLst_2, mkLst_3, mkLst_4, mkLst_5, retD_d, blt_lenL, blt_tupL, blt_int, idx_l, idx_t, seq_l, seq_t, bind_ok, wipeE, List.map, List.replicate, List.cons_append, List.nil_append, List.length_cons, List.length_nil, Bool.not_true, Bool.not_false, drumK_ok _ hd, p30, p9]
  refine W_thenM ?_
  refine W_asgM ?_
  refine W_callM ?_
  refine W_consM ?_
  refine W_ok ?_
  refine W_consM ?_
  refine W_ap1 ?_
  refine W_consM ?_
  refine W_ok ?_
  refine W_consM ?_
  refine W_ok ?_
  refine W_consM ?_
  refine W_ap2 ?_
  refine W_ok ?_
  refine roll_w (by omega) (by decide) fun i i0 i1 => ?_
  rw [bin_add]
  refine W_ok ?_
  refine W_consM ?_
  refine W_ap2 ?_
  refine W_ok ?_
  refine roll_w (by omega) (by decide) fun j j0 j1 => ?_
  rw [bin_sub]
  refine W_ok ?_
  refine W_ok ?_
  rw [mkLst_4]
  refine W_ok ?_
  refine W_ok ?_
  refine some_wp (by omega) (by simp) (by simp) fun x hx => ?_
  obtain ⟨s, rfl, hs⟩ : ∃ s : Int, x = .int s ∧ (3 ≤ s ∧ s ≤ 999999999999999999999999999996) := by
    simp only [List.mem_cons, List.not_mem_nil, or_false] at hx
    rcases hx with rfl | rfl | rfl | rfl
    · exact ⟨_, rfl, by omega⟩
    · exact ⟨_, rfl, by omega⟩
    · exact ⟨_, rfl, by omega⟩
    · exact ⟨_, rfl, by omega⟩
  rw [asgM_name]
  refine W_ok ?_
  rw [thenM_nx]
  simp only [v_var, v_int, v_bl, v_non, v_fn, v_bin, v_neg, v_cmp, v_chain, v_bop, v_not, v_ite, v_tup, v_lst, v_call, v_blt, v_isi, v_idx, v_slice, v_comp, t_bop', t_not', t_cmp', t_chain', t_call', t_isi', t_var', vv_one, vv_cons, vB_one, vB_cons, vK_t, vK_f, vK_t', vK_f', bK_t, bK_f, bK_t', bK_f', s_nil, s_cons, consM_ok, callM_ok, chainM_ok, chainK_t, chainK_f, chainT_ok, chainTK_t, chainTK_f, iteM_t, iteM_f, o_none', o_some', someI_i, ap1_ok, ap2_ok, ap3_ok, c_none', c_some', i_seq', mapGo_nil, mapGo_cons, mapK_s, mapK_n, compG_name, cgK_t, cgK_f, sureD_d, x_asg, asgM_name, x_par2, par2M_ok, x_par3, par3M_ok, x_drum, x_expr, exprM_ok, x_ret, x_ifs, ifM_t, ifM_f, x_while, x_for, forM_ok, forB_name, ss_nil', ss_cons', thenM_nx, thenM_rt, runM_nx, runM_rt, getV_0d, getV_0f, getV_0k, getV_s, set_0, set_s, bin_add, bin_sub, cmp_eq, cmp_ne, cmp_lt, cmp_le, cmp_gt, cmp_ge, cmpE_eq, cmpE_ne, cmpE_lt, cmpE_le, cmpE_gt, cmpE_ge, asBl_b, notD_b, notB_b, negD_i, isi_d, isiE_d, isiV, mkTup_0, mkTup_1, mkTup_2, mkTup_3, mkTup_4, mkTup_5, mkLst_0, mkLst_1, mkLst_2, mkLst_3, mkLst_4, mkLst_5, retD_d, blt_lenL, blt_tupL, blt_int, idx_l, idx_t, seq_l, seq_t, bind_ok, wipeE, List.map, List.replicate, List.cons_append, List.nil_append, List.length_cons, List.length_nil, Bool.not_true, Bool.not_false, p12]
  refine W_thenM ?_
  refine W_asgM ?_
  refine W_callM ?_
  refine W_consM ?_
  refine W_ok ?_
  refine W_consM ?_
  refine W_ap1 ?_
  refine W_consM ?_
  refine W_ok ?_
  refine W_consM ?_
  refine W_ok ?_
  refine W_consM ?_
  refine W_ok ?_
  refine W_consM ?_
  refine W_ok ?_
  refine W_consM ?_
  refine W_ap2 ?_
  refine W_ok ?_
  refine roll_w (by omega) (by decide) fun i2 i20 i21 => ?_
  rw [bin_add]
  refine W_ok ?_
  refine W_ok ?_
  rw [mkLst_5]
  refine W_ok ?_
  refine W_ok ?_
  refine some_wp (by omega) (by simp) (by simp) fun x hx => ?_
  obtain ⟨m, rfl, hm⟩ : ∃ m : Int, x = .int m ∧ okM m := by
    simp only [List.mem_cons, List.not_mem_nil, or_false] at hx
    rcases hx with rfl | rfl | rfl | rfl | rfl
    · exact ⟨_, rfl, by omega⟩
    · exact ⟨_, rfl, by omega⟩
    · exact ⟨_, rfl, by omega⟩
    · exact ⟨_, rfl, by omega⟩
    · exact ⟨_, rfl, by omega⟩
  rw [asgM_name]
  refine W_ok ?_
  rw [thenM_nx]
  simp only [v_var, v_int, v_bl, v_non, v_fn, v_bin, v_neg, v_cmp, v_chain, v_bop, v_not, v_ite, v_tup, v_lst, v_call, v_blt, v_isi, v_idx, v_slice, v_comp, t_bop', t_not', t_cmp', t_chain', t_call', t_isi', t_var', vv_one, vv_cons, vB_one, vB_cons, vK_t, vK_f, vK_t', vK_f', bK_t, bK_f, bK_t', bK_f', s_nil, s_cons, consM_ok, callM_ok, chainM_ok, chainK_t, chainK_f, chainT_ok, chainTK_t, chainTK_f, iteM_t, iteM_f, o_none', o_some', someI_i, ap1_ok, ap2_ok, ap3_ok, c_none', c_some', i_seq', mapGo_nil, mapGo_cons, mapK_s, mapK_n, compG_name, cgK_t, cgK_f, sureD_d, x_asg, asgM_name, x_par2, par2M_ok, x_par3, par3M_ok, x_drum, x_expr, exprM_ok, x_ret, x_ifs, ifM_t, ifM_f, x_while, x_for, forM_ok, forB_name, ss_nil', ss_cons', thenM_nx, thenM_rt, runM_nx, runM_rt, getV_0d, getV_0f, getV_0k, getV_s, set_0, set_s, bin_add, bin_sub, cmp_eq, cmp_ne, cmp_lt, cmp_le, cmp_gt, cmp_ge, cmpE_eq, cmpE_ne, cmpE_lt, cmpE_le, cmpE_gt, cmpE_ge, asBl_b, notD_b, notB_b, negD_i, isi_d, isiE_d, isiV, mkTup_0, mkTup_1, mkTup_2, mkTup_3, mkTup_4, mkTup_5, mkLst_0, mkLst_1, mkLst_2, mkLst_3, mkLst_4, mkLst_5, retD_d, blt_lenL, blt_tupL, blt_int, idx_l, idx_t, seq_l, seq_t, bind_ok, wipeE, List.map, List.replicate, List.cons_append, List.nil_append, List.length_cons, List.length_nil, Bool.not_true, Bool.not_false, right_eq (k + 1) hs hm]
  have oo : okS s := by omega
  refine W_thenM ?_
  refine W_ifM ?_
  refine W_ap1 ?_
  refine W_ap1 ?_
  refine faces_wp' (by omega) oo hm ?_
  rw [asBl_b]
  refine W_ok ?_
  rw [notB_b]
  refine W_ok ?_
  simp only [v_var, v_int, v_bl, v_non, v_fn, v_bin, v_neg, v_cmp, v_chain, v_bop, v_not, v_ite, v_tup, v_lst, v_call, v_blt, v_isi, v_idx, v_slice, v_comp, t_bop', t_not', t_cmp', t_chain', t_call', t_isi', t_var', vv_one, vv_cons, vB_one, vB_cons, vK_t, vK_f, vK_t', vK_f', bK_t, bK_f, bK_t', bK_f', s_nil, s_cons, consM_ok, callM_ok, chainM_ok, chainK_t, chainK_f, chainT_ok, chainTK_t, chainTK_f, iteM_t, iteM_f, o_none', o_some', someI_i, ap1_ok, ap2_ok, ap3_ok, c_none', c_some', i_seq', mapGo_nil, mapGo_cons, mapK_s, mapK_n, compG_name, cgK_t, cgK_f, sureD_d, x_asg, asgM_name, x_par2, par2M_ok, x_par3, par3M_ok, x_drum, x_expr, exprM_ok, x_ret, x_ifs, ifM_t, ifM_f, x_while, x_for, forM_ok, forB_name, ss_nil', ss_cons', thenM_nx, thenM_rt, runM_nx, runM_rt, getV_0d, getV_0f, getV_0k, getV_s, set_0, set_s, bin_add, bin_sub, cmp_eq, cmp_ne, cmp_lt, cmp_le, cmp_gt, cmp_ge, cmpE_eq, cmpE_ne, cmpE_lt, cmpE_le, cmpE_gt, cmpE_ge, asBl_b, notD_b, notB_b, negD_i, isi_d, isiE_d, isiV, mkTup_0, mkTup_1, mkTup_2, mkTup_3, mkTup_4, mkTup_5, mkLst_0, mkLst_1, mkLst_2, mkLst_3, mkLst_4, mkLst_5, retD_d, blt_lenL, blt_tupL, blt_int, idx_l, idx_t, seq_l, seq_t, bind_ok, wipeE, List.map, List.replicate, List.cons_append, List.nil_append, List.length_cons, List.length_nil, Bool.not_true, Bool.not_false]
  refine W_ok ?_
  rw [thenM_nx, ss_nil']
  exact W_ok (hQ _ _ _)
theorem loop_wp {n : Nat} (hn : 6 ≤ n) {sc e : Option D} {Q : Ev.Flow → Prop} {E : Nat → Prop} : ∀ (cs : List Int) (x a b d : Option D), (∀ x a b d, Q (.nx [sc, x, a, b, d, e])) → Wp (forGo (forB (F n) (.name 1) b18_0) (cs.map .int) [sc, x, a, b, d, e]) Q E
  | [], x, a, b, d, hQ => W_ok (hQ x a b d)
  | c :: cs, x, a, b, d, hQ => by
    rw [List.map_cons, forGo_cons, forB_name]
    refine W_fN ?_
    refine turn_wp hn fun a' b' d' => ?_
    rw [fN_nx]
    exact loop_wp hn cs _ _ _ _ hQ
/-! ### what is asked at the end -/
theorem cl0 : F 11 7 [I 1000000000000000000000000000000] = .ok (I 1000000000000000000000000000002) := isI_of (by decide +kernel)
theorem cl1 : F 11 8 [I 1000000000000000000000000000000, I 7] = .ok (I 3) := isI_of (by decide +kernel)
theorem cl2 : F 11 11 [I 1000000000000000000000000000000, I 10] = .ok (I 0) := isI_of (by decide +kernel)
theorem cl3 : F 11 8 [I 3, I 1000000] = .ok (I 6) := isI_of (by decide +kernel)
theorem cl4 : F 11 8 [I 4, I 1000000] = .ok (I 24) := isI_of (by decide +kernel)
theorem cl5 : F 11 8 [I 5, I 1000000] = .ok (I 30) := isI_of (by decide +kernel)
theorem cl6 : F 11 8 [I 6, I 1000000] = .ok (I 72) := isI_of (by decide +kernel)
theorem cl7 : F 11 10 [I 3, I 1000] = .ok (I 4) := isI_of (by decide +kernel)
theorem cl8 : F 11 10 [I 4, I 1000] = .ok (I 9) := isI_of (by decide +kernel)
theorem cl9 : F 11 10 [I 5, I 1000] = .ok (I 11) := isI_of (by decide +kernel)
theorem cl10 : F 11 11 [I 3, I 1000] = .ok (I 75) := isI_of (by decide +kernel)
theorem cl11 : F 11 11 [I 4, I 1000] = .ok (I 384) := isI_of (by decide +kernel)
theorem cl12 : F 11 9 [I 4, I 3, I 100] = .ok (I 6) := isI_of (by decide +kernel)
theorem cl13 : F 11 9 [I 4, I 4, I 1000] = .ok (I 96) := isI_of (by decide +kernel)
theorem cl14 : F 11 9 [I 5, I 3, I 10] = .ok (I 0) := isI_of (by decide +kernel)
abbrev L (ns : List Int) : D := .dat (.list (ns.map .int))
theorem ne1 : cmpD .ne (.dat (.list [.int 6, .int 24, .int 30, .int 72])) (.dat (.list [.int 6, .int 24, .int 30, .int 72])) = .ok false := rfl
theorem ne2 : cmpD .ne (.dat (.list [.int 4, .int 9, .int 11])) (.dat (.list [.int 4, .int 9, .int 11])) = .ok false := rfl
theorem ne3 : cmpD .ne (.dat (.list [.int 75, .int 384])) (.dat (.list [.int 75, .int 384])) = .ok false := rfl
structure Cl (G : Nat → List D → M D) : Prop where
  f0 : G 7 [I 1000000000000000000000000000000] = .ok (I 1000000000000000000000000000002)
  f1 : G 8 [I 1000000000000000000000000000000, I 7] = .ok (I 3)
  f2 : G 11 [I 1000000000000000000000000000000, I 10] = .ok (I 0)
  f3 : G 8 [I 3, I 1000000] = .ok (I 6)
  f4 : G 8 [I 4, I 1000000] = .ok (I 24)
  f5 : G 8 [I 5, I 1000000] = .ok (I 30)
  f6 : G 8 [I 6, I 1000000] = .ok (I 72)
  f7 : G 10 [I 3, I 1000] = .ok (I 4)
  f8 : G 10 [I 4, I 1000] = .ok (I 9)
  f9 : G 10 [I 5, I 1000] = .ok (I 11)
  f10 : G 11 [I 3, I 1000] = .ok (I 75)
  f11 : G 11 [I 4, I 1000] = .ok (I 384)
  f12 : G 9 [I 4, I 3, I 100] = .ok (I 6)
  f13 : G 9 [I 4, I 4, I 1000] = .ok (I 96)
  f14 : G 9 [I 5, I 3, I 10] = .ok (I 0)
theorem cl_all : Cl (F 11) := ⟨cl0, cl1, cl2, cl3, cl4, cl5, cl6, cl7, cl8, cl9, cl10, cl11, cl12, cl13, cl14⟩
section
variable (a b c d e f : Option D) {G : Nat → List D → M D} (g : Cl G)
include g
theorem k1 : compR G [5] (.name 5) .none (.call 8 (.cons (.var 5) (.cons (.bin .pow (.int 10) (.int 6)) .nil))) [a, b, c, d, e, f] (.ok [.int 3, .int 4, .int 5, .int 6]) = .ok (.dat (.list [.int 6, .int 24, .int 30, .int 72])) := compR_ok _ rfl (by simp only [v_var, v_int, v_bl, v_non, v_fn, v_bin, v_neg, v_cmp, v_chain, v_bop, v_not, v_ite, v_tup, v_lst, v_call, v_blt, v_isi, v_idx, v_slice, v_comp, t_bop', t_not', t_cmp', t_chain', t_call', t_isi', t_var', vv_one, vv_cons, vB_one, vB_cons, vK_t, vK_f, vK_t', vK_f', bK_t, bK_f, bK_t', bK_f', s_nil, s_cons, consM_ok, callM_ok, chainM_ok, chainK_t, chainK_f, chainT_ok, chainTK_t, chainTK_f, iteM_t, iteM_f, o_none', o_some', someI_i, ap1_ok, ap2_ok, ap3_ok, c_none', c_some', i_seq', mapGo_nil, mapGo_cons, mapK_s, mapK_n, compG_name, cgK_t, cgK_f, sureD_d, x_asg, asgM_name, x_par2, par2M_ok, x_par3, par3M_ok, x_drum, x_expr, exprM_ok, x_ret, x_ifs, ifM_t, ifM_f, x_while, x_for, forM_ok, forB_name, ss_nil', ss_cons', thenM_nx, thenM_rt, runM_nx, runM_rt, getV_0d, getV_0f, getV_0k, getV_s, set_0, set_s, bin_add, bin_sub, cmp_eq, cmp_ne, cmp_lt, cmp_le, cmp_gt, cmp_ge, cmpE_eq, cmpE_ne, cmpE_lt, cmpE_le, cmpE_gt, cmpE_ge, asBl_b, notD_b, notB_b, negD_i, isi_d, isiE_d, isiV, mkTup_0, mkTup_1, mkTup_2, mkTup_3, mkTup_4, mkTup_5, mkLst_0, mkLst_1, mkLst_2, mkLst_3, mkLst_4, mkLst_5, retD_d, blt_lenL, blt_tupL, blt_int, idx_l, idx_t, seq_l, seq_t, bind_ok, wipeE, List.map, List.replicate, List.cons_append, List.nil_append, List.length_cons, List.length_nil, Bool.not_true, Bool.not_false, p6, g.f3, g.f4, g.f5, g.f6])
theorem k2 : compR G [5] (.name 5) .none (.call 10 (.cons (.var 5) (.cons (.int 1000) .nil))) [a, b, c, d, e, f] (.ok [.int 3, .int 4, .int 5]) = .ok (.dat (.list [.int 4, .int 9, .int 11])) := compR_ok _ rfl (by simp only [v_var, v_int, v_bl, v_non, v_fn, v_bin, v_neg, v_cmp, v_chain, v_bop, v_not, v_ite, v_tup, v_lst, v_call, v_blt, v_isi, v_idx, v_slice, v_comp, t_bop', t_not', t_cmp', t_chain', t_call', t_isi', t_var', vv_one, vv_cons, vB_one, vB_cons, vK_t, vK_f, vK_t', vK_f', bK_t, bK_f, bK_t', bK_f', s_nil, s_cons, consM_ok, callM_ok, chainM_ok, chainK_t, chainK_f, chainT_ok, chainTK_t, chainTK_f, iteM_t, iteM_f, o_none', o_some', someI_i, ap1_ok, ap2_ok, ap3_ok, c_none', c_some', i_seq', mapGo_nil, mapGo_cons, mapK_s, mapK_n, compG_name, cgK_t, cgK_f, sureD_d, x_asg, asgM_name, x_par2, par2M_ok, x_par3, par3M_ok, x_drum, x_expr, exprM_ok, x_ret, x_ifs, ifM_t, ifM_f, x_while, x_for, forM_ok, forB_name, ss_nil', ss_cons', thenM_nx, thenM_rt, runM_nx, runM_rt, getV_0d, getV_0f, getV_0k, getV_s, set_0, set_s, bin_add, bin_sub, cmp_eq, cmp_ne, cmp_lt, cmp_le, cmp_gt, cmp_ge, cmpE_eq, cmpE_ne, cmpE_lt, cmpE_le, cmpE_gt, cmpE_ge, asBl_b, notD_b, notB_b, negD_i, isi_d, isiE_d, isiV, mkTup_0, mkTup_1, mkTup_2, mkTup_3, mkTup_4, mkTup_5, mkLst_0, mkLst_1, mkLst_2, mkLst_3, mkLst_4, mkLst_5, retD_d, blt_lenL, blt_tupL, blt_int, idx_l, idx_t, seq_l, seq_t, bind_ok, wipeE, List.map, List.replicate, List.cons_append, List.nil_append, List.length_cons, List.length_nil, Bool.not_true, Bool.not_false, g.f7, g.f8, g.f9])
theorem k3 : compR G [5] (.name 5) .none (.call 11 (.cons (.var 5) (.cons (.int 1000) .nil))) [a, b, c, d, e, f] (.ok [.int 3, .int 4]) = .ok (.dat (.list [.int 75, .int 384])) := compR_ok _ rfl (by simp only [v_var, v_int, v_bl, v_non, v_fn, v_bin, v_neg, v_cmp, v_chain, v_bop, v_not, v_ite, v_tup, v_lst, v_call, v_blt, v_isi, v_idx, v_slice, v_comp, t_bop', t_not', t_cmp', t_chain', t_call', t_isi', t_var', vv_one, vv_cons, vB_one, vB_cons, vK_t, vK_f, vK_t', vK_f', bK_t, bK_f, bK_t', bK_f', s_nil, s_cons, consM_ok, callM_ok, chainM_ok, chainK_t, chainK_f, chainT_ok, chainTK_t, chainTK_f, iteM_t, iteM_f, o_none', o_some', someI_i, ap1_ok, ap2_ok, ap3_ok, c_none', c_some', i_seq', mapGo_nil, mapGo_cons, mapK_s, mapK_n, compG_name, cgK_t, cgK_f, sureD_d, x_asg, asgM_name, x_par2, par2M_ok, x_par3, par3M_ok, x_drum, x_expr, exprM_ok, x_ret, x_ifs, ifM_t, ifM_f, x_while, x_for, forM_ok, forB_name, ss_nil', ss_cons', thenM_nx, thenM_rt, runM_nx, runM_rt, getV_0d, getV_0f, getV_0k, getV_s, set_0, set_s, bin_add, bin_sub, cmp_eq, cmp_ne, cmp_lt, cmp_le, cmp_gt, cmp_ge, cmpE_eq, cmpE_ne, cmpE_lt, cmpE_le, cmpE_gt, cmpE_ge, asBl_b, notD_b, notB_b, negD_i, isi_d, isiE_d, isiV, mkTup_0, mkTup_1, mkTup_2, mkTup_3, mkTup_4, mkTup_5, mkLst_0, mkLst_1, mkLst_2, mkLst_3, mkLst_4, mkLst_5, retD_d, blt_lenL, blt_tupL, blt_int, idx_l, idx_t, seq_l, seq_t, bind_ok, wipeE, List.map, List.replicate, List.cons_append, List.nil_append, List.length_cons, List.length_nil, Bool.not_true, Bool.not_false, g.f10, g.f11])
end
theorem cut_ints (ns : List Int) (lo hi : Option Int) : ∃ cs : List Int, cutD (ns.map .int) lo hi = cs.map .int := by
  refine ⟨(ns.drop (HT.sIx ns.length 0 lo)).take (HT.sIx ns.length ns.length hi - HT.sIx ns.length 0 lo), ?_⟩
  unfold cutD
  rw [List.length_map, List.map_take, List.map_drop]
theorem slice_l (xs : List PyData) (lo hi : Option Int) : sliceD (.dat (.list xs)) lo hi = .ok (.dat (.list (cutD xs lo hi))) := rfl
theorem ten : decide ((1000000000000000000000000000002 : Int) = 1000000000000000000000000000000 + 2) = true := by decide
theorem law_G {G : Nat → List D → M D} (g : Cl G) (lp : ∀ (sc e : Option D) (Q : Ev.Flow → Prop) (E : Nat → Prop) (cs : List Int) (x a b d : Option D), (∀ x a b d, Q (.nx [sc, x, a, b, d, e])) → Wp (forGo (forB G (.name 1) b18_0) (cs.map .int) [sc, x, a, b, d, e]) Q E)
    (ns : List Int) (hn : ns.length ≤ 63) : Wp (Ev.run G d18 [.dat (.list (ns.map .int))]) (fun d => d = .dat (.bool true)) (fun _ => False) := by
  rw [run_eq (by rfl)]
  have hc : binD .add (.dat (.list (ns.map .int))) (.dat (.list [.int 0, .int 1])) = .ok (.dat (.list ((ns ++ [0, 1]).map .int))) := by
    rw [bin_cat, List.map_append]
    · rfl
    · show Nat.ble _ _ = true
      rw [Nat.ble_eq]
      simp
      omega
  obtain ⟨cs, ec⟩ := cut_ints (ns ++ [0, 1]) none (some 4)
  simp only [d18, v_var, v_int, v_bl, v_non, v_fn, v_bin, v_neg, v_cmp, v_chain, v_bop, v_not, v_ite, v_tup, v_lst, v_call, v_blt, v_isi, v_idx, v_slice, v_comp, t_bop', t_not', t_cmp', t_chain', t_call', t_isi', t_var', vv_one, vv_cons, vB_one, vB_cons, vK_t, vK_f, vK_t', vK_f', bK_t, bK_f, bK_t', bK_f', s_nil, s_cons, consM_ok, callM_ok, chainM_ok, chainK_t, chainK_f, chainT_ok, chainTK_t, chainTK_f, iteM_t, iteM_f, o_none', o_some', someI_i, ap1_ok, ap2_ok, ap3_ok, c_none', c_some', i_seq', mapGo_nil, mapGo_cons, mapK_s, mapK_n, compG_name, cgK_t, cgK_f, sureD_d, x_asg, asgM_name, x_par2, par2M_ok, x_par3, par3M_ok, x_drum, x_expr, exprM_ok, x_ret, x_ifs, ifM_t, ifM_f, x_while, x_for, forM_ok, forB_name, ss_nil', ss_cons', thenM_nx, thenM_rt, runM_nx, runM_rt, getV_0d, getV_0f, getV_0k, getV_s, set_0, set_s, bin_add, bin_sub, cmp_eq, cmp_ne, cmp_lt, cmp_le, cmp_gt, cmp_ge, cmpE_eq, cmpE_ne, cmpE_lt, cmpE_le, cmpE_gt, cmpE_ge, asBl_b, notD_b, notB_b, negD_i, isi_d, isiE_d, isiV, mkTup_0, mkTup_1, mkTup_2, mkTup_3, mkTup_4, mkTup_5, mkLst_0, mkLst_1, mkLst_2, mkLst_3, mkLst_4, mkLst_5, retD_d, blt_lenL, blt_tupL, blt_int, idx_l, idx_t, seq_l, seq_t, bind_ok, wipeE, List.map, List.replicate, List.cons_append, List.nil_append, List.length_cons, List.length_nil, Bool.not_true, Bool.not_false, hc, slice_l, ec]
  refine W_runM ?_
  refine W_thenM ?_
  refine lp _ _ _ _ cs _ _ _ _ fun x a b d => ?_
  simp only [v_var, v_int, v_bl, v_non, v_fn, v_bin, v_neg, v_cmp, v_chain, v_bop, v_not, v_ite, v_tup, v_lst, v_call, v_blt, v_isi, v_idx, v_slice, v_comp, t_bop', t_not', t_cmp', t_chain', t_call', t_isi', t_var', vv_one, vv_cons, vB_one, vB_cons, vK_t, vK_f, vK_t', vK_f', bK_t, bK_f, bK_t', bK_f', s_nil, s_cons, consM_ok, callM_ok, chainM_ok, chainK_t, chainK_f, chainT_ok, chainTK_t, chainTK_f, iteM_t, iteM_f, o_none', o_some', someI_i, ap1_ok, ap2_ok, ap3_ok, c_none', c_some', i_seq', mapGo_nil, mapGo_cons, mapK_s, mapK_n, compG_name, cgK_t, cgK_f, sureD_d, x_asg, asgM_name, x_par2, par2M_ok, x_par3, par3M_ok, x_drum, x_expr, exprM_ok, x_ret, x_ifs, ifM_t, ifM_f, x_while, x_for, forM_ok, forB_name, ss_nil', ss_cons', thenM_nx, thenM_rt, runM_nx, runM_rt, getV_0d, getV_0f, getV_0k, getV_s, set_0, set_s, bin_add, bin_sub, cmp_eq, cmp_ne, cmp_lt, cmp_le, cmp_gt, cmp_ge, cmpE_eq, cmpE_ne, cmpE_lt, cmpE_le, cmpE_gt, cmpE_ge, asBl_b, notD_b, notB_b, negD_i, isi_d, isiE_d, isiV, mkTup_0, mkTup_1, mkTup_2, mkTup_3, mkTup_4, mkTup_5, mkLst_0, mkLst_1, mkLst_2, mkLst_3, mkLst_4, mkLst_5, retD_d, blt_lenL, blt_tupL, blt_int, idx_l, idx_t, seq_l, seq_t, bind_ok, wipeE, List.map, List.replicate, List.cons_append, List.nil_append, List.length_cons, List.length_nil, Bool.not_true, Bool.not_false, p30, g.f0, g.f1, g.f2, ten, k1 _ _ _ _ _ _ g, k2 _ _ _ _ _ _ g, k3 _ _ _ _ _ _ g, ne1, ne2, ne3, g.f12, g.f13, g.f14, decide_true]
  exact W_ok (W_ok rfl)
theorem law_W (ns : List Int) (hn : ns.length ≤ 63) : Wp (Ev.run (F 11) d18 [.dat (.list (ns.map .int))]) (fun d => d = .dat (.bool true)) (fun _ => False) :=
  law_G cl_all (fun _ _ _ _ cs x a b d hQ => loop_wp (by decide) cs x a b d hQ) ns hn
end K64
end

section
set_option Elab.async false
set_option linter.all false
set_option maxRecDepth 100000
set_option maxHeartbeats 0
namespace K64
open PySem L2 Ev
def fA (K : PySem.W.Frag) (i : Nat) : Addr := He.ga K (names.getD i "")
section
variable {P : Program} {w : World} {K : PySem.W.Frag} {h : Heap} {mg : Str → Option Value}
theorem fun_at (c : He.SaysD fa fnD K) (k : Nat) {x : Str} {i : Nat} (e : fnD[k]? = some (dfd x i)) : ∃ fd, FunD K x x (defArgs (top i)) (defBody (top i)) (defScope (top i)) [] [] (He.ga K x) fd := c.def_ k e
theorem mg_at (X : K.In h) (G : h.Ns mainGlobals mg) (c : He.SaysD fa fnD K) (k : Nat) {x : Str} (e : fa[k]? = some (He.Fa.glo x)) : mg x = some (.ref (He.ga K x)) := He.glo_ok X G (c.fact k e)
theorem tx0 (X : K.In h) (G : h.Ns mainGlobals mg) (c : He.SaysD fa fnD K) : Tx K mg (fA K) 0 "is_whole" (top 5) ["value", "low", "high"] := by
  obtain ⟨fd, F⟩ := fun_at c 0 (x := "is_whole") (i := 5) rfl
  exact ⟨mg_at X G c 0 rfl, fd, F, F.bindsN fun _ _ _ _ _ _ us hl => match us, hl with | [_, _, _], _ => rfl⟩
theorem tx1 (X : K.In h) (G : h.Ns mainGlobals mg) (c : He.SaysD fa fnD K) : Tx K mg (fA K) 1 "need_number" (top 6) ["value", "low", "high"] := by
  obtain ⟨fd, F⟩ := fun_at c 1 (x := "need_number") (i := 6) rfl
  exact ⟨mg_at X G c 1 rfl, fd, F, F.bindsN fun _ _ _ _ _ _ us hl => match us, hl with | [_, _, _], _ => rfl⟩
theorem tx2 (X : K.In h) (G : h.Ns mainGlobals mg) (c : He.SaysD fa fnD K) : Tx K mg (fA K) 2 "power_by" (top 8) ["one", "many", "modulus"] := by
  obtain ⟨fd, F⟩ := fun_at c 2 (x := "power_by") (i := 8) rfl
  exact ⟨mg_at X G c 2 rfl, fd, F, F.bindsN fun _ _ _ _ _ _ us hl => match us, hl with | [_, _, _], _ => rfl⟩
theorem tx3 (X : K.In h) (G : h.Ns mainGlobals mg) (c : He.SaysD fa fnD K) : Tx K mg (fA K) 3 "ring_hues" (top 9) ["sides", "many", "modulus"] := by
  obtain ⟨fd, F⟩ := fun_at c 3 (x := "ring_hues") (i := 9) rfl
  exact ⟨mg_at X G c 3 rfl, fd, F, F.bindsN fun _ _ _ _ _ _ us hl => match us, hl with | [_, _, _], _ => rfl⟩
theorem tx4 (X : K.In h) (G : h.Ns mainGlobals mg) (c : He.SaysD fa fnD K) : Tx K mg (fA K) 4 "times" (top 10) ["one", "other", "modulus"] := by
  obtain ⟨fd, F⟩ := fun_at c 4 (x := "times") (i := 10) rfl
  exact ⟨mg_at X G c 4 rfl, fd, F, F.bindsN fun _ _ _ _ _ _ us hl => match us, hl with | [_, _, _], _ => rfl⟩
theorem tx5 (X : K.In h) (G : h.Ns mainGlobals mg) (c : He.SaysD fa fnD K) : Tx K mg (fA K) 5 "row_at" (top 11) ["first", "second", "much", "less", "index", "modulus"] := by
  obtain ⟨fd, F⟩ := fun_at c 5 (x := "row_at") (i := 11) rfl
  exact ⟨mg_at X G c 5 rfl, fd, F, F.bindsN fun _ _ _ _ _ _ us hl => match us, hl with | [_, _, _, _, _, _], _ => rfl⟩
theorem tx6 (X : K.In h) (G : h.Ns mainGlobals mg) (c : He.SaysD fa fnD K) : Tx K mg (fA K) 6 "need_sides" (top 12) ["value", "most"] := by
  obtain ⟨fd, F⟩ := fun_at c 6 (x := "need_sides") (i := 12) rfl
  exact ⟨mg_at X G c 6 rfl, fd, F, F.bindsN fun _ _ _ _ _ _ us hl => match us, hl with | [_, _], _ => rfl⟩
theorem tx7 (X : K.In h) (G : h.Ns mainGlobals mg) (c : He.SaysD fa fnD K) : Tx K mg (fA K) 7 "drum_rounds" (top 13) ["sides"] := by
  obtain ⟨fd, F⟩ := fun_at c 7 (x := "drum_rounds") (i := 13) rfl
  exact ⟨mg_at X G c 7 rfl, fd, F, F.bindsN fun _ _ _ _ _ _ us hl => match us, hl with | [_], _ => rfl⟩
theorem tx8 (X : K.In h) (G : h.Ns mainGlobals mg) (c : He.SaysD fa fnD K) : Tx K mg (fA K) 8 "drum_edge_hues" (top 14) ["sides", "modulus"] := by
  obtain ⟨fd, F⟩ := fun_at c 8 (x := "drum_edge_hues") (i := 14) rfl
  exact ⟨mg_at X G c 8 rfl, fd, F, F.bindsN fun _ _ _ _ _ _ us hl => match us, hl with | [_, _], _ => rfl⟩
theorem tx9 (X : K.In h) (G : h.Ns mainGlobals mg) (c : He.SaysD fa fnD K) : Tx K mg (fA K) 9 "drum_face_hues" (top 15) ["sides", "many", "modulus"] := by
  obtain ⟨fd, F⟩ := fun_at c 9 (x := "drum_face_hues") (i := 15) rfl
  exact ⟨mg_at X G c 9 rfl, fd, F, F.bindsN fun _ _ _ _ _ _ us hl => match us, hl with | [_, _, _], _ => rfl⟩
theorem tx10 (X : K.In h) (G : h.Ns mainGlobals mg) (c : He.SaysD fa fnD K) : Tx K mg (fA K) 10 "drum_pairings" (top 16) ["sides", "modulus"] := by
  obtain ⟨fd, F⟩ := fun_at c 10 (x := "drum_pairings") (i := 16) rfl
  exact ⟨mg_at X G c 10 rfl, fd, F, F.bindsN fun _ _ _ _ _ _ us hl => match us, hl with | [_, _], _ => rfl⟩
theorem tx11 (X : K.In h) (G : h.Ns mainGlobals mg) (c : He.SaysD fa fnD K) : Tx K mg (fA K) 11 "drum_trees" (top 17) ["sides", "modulus"] := by
  obtain ⟨fd, F⟩ := fun_at c 11 (x := "drum_trees") (i := 17) rfl
  exact ⟨mg_at X G c 11 rfl, fd, F, F.bindsN fun _ _ _ _ _ _ us hl => match us, hl with | [_, _], _ => rfl⟩
theorem tx12 (X : K.In h) (G : h.Ns mainGlobals mg) (c : He.SaysD fa fnD K) : Tx K mg (fA K) 12 "_law_drum" (top 19) ["_law_cell", "_law_turn"] := by
  obtain ⟨fd, F⟩ := fun_at c 12 (x := "_law_drum") (i := 19) rfl
  exact ⟨mg_at X G c 12 rfl, fd, F, F.bindsN fun _ _ _ _ _ _ us hl => match us, hl with | [_, _], _ => rfl⟩
theorem tx13 (X : K.In h) (G : h.Ns mainGlobals mg) (c : He.SaysD fa fnD K) : Tx K mg (fA K) 13 "_law_roll" (top 20) ["_law_keg", "_law_many"] := by
  obtain ⟨fd, F⟩ := fun_at c 13 (x := "_law_roll") (i := 20) rfl
  exact ⟨mg_at X G c 13 rfl, fd, F, F.bindsN fun _ _ _ _ _ _ us hl => match us, hl with | [_, _], _ => rfl⟩
theorem tx14 (X : K.In h) (G : h.Ns mainGlobals mg) (c : He.SaysD fa fnD K) : Tx K mg (fA K) 14 "_law_some" (top 21) ["_law_keg", "_law_things"] := by
  obtain ⟨fd, F⟩ := fun_at c 14 (x := "_law_some") (i := 21) rfl
  exact ⟨mg_at X G c 14 rfl, fd, F, F.bindsN fun _ _ _ _ _ _ us hl => match us, hl with | [_, _], _ => rfl⟩
theorem tx15 (X : K.In h) (G : h.Ns mainGlobals mg) (c : He.SaysD fa fnD K) : Tx K mg (fA K) 15 "_law_rest" (top 22) ["_law_call", "_law_sides_so", "_law_modulus_so"] := by
  obtain ⟨fd, F⟩ := fun_at c 15 (x := "_law_rest") (i := 22) rfl
  exact ⟨mg_at X G c 15 rfl, fd, F, F.bindsN fun _ _ _ _ _ _ us hl => match us, hl with | [_, _, _], _ => rfl⟩
theorem tx16 (X : K.In h) (G : h.Ns mainGlobals mg) (c : He.SaysD fa fnD K) : Tx K mg (fA K) 16 "_law_right" (top 23) ["_law_drum_so", "_law_sides_so", "_law_modulus_so"] := by
  obtain ⟨fd, F⟩ := fun_at c 16 (x := "_law_right") (i := 23) rfl
  exact ⟨mg_at X G c 16 rfl, fd, F, F.bindsN fun _ _ _ _ _ _ us hl => match us, hl with | [_, _, _], _ => rfl⟩
theorem tx17 (X : K.In h) (G : h.Ns mainGlobals mg) (c : He.SaysD fa fnD K) : Tx K mg (fA K) 17 "_law_faces_right" (top 24) ["_law_drum_so", "_law_sides_so", "_law_modulus_so"] := by
  obtain ⟨fd, F⟩ := fun_at c 17 (x := "_law_faces_right") (i := 24) rfl
  exact ⟨mg_at X G c 17 rfl, fd, F, F.bindsN fun _ _ _ _ _ _ us hl => match us, hl with | [_, _, _], _ => rfl⟩
theorem tx18 (X : K.In h) (G : h.Ns mainGlobals mg) (c : He.SaysD fa fnD K) : Tx K mg (fA K) 18 "law" (top 25) ["_law_script"] := by
  obtain ⟨fd, F⟩ := fun_at c 18 (x := "law") (i := 25) rfl
  exact ⟨mg_at X G c 18 rfl, fd, F, F.bindsN fun _ _ _ _ _ _ us hl => match us, hl with | [_], _ => rfl⟩
theorem blts_at (X : K.In h) (G : h.Ns mainGlobals mg) (c : He.SaysD fa fnD K) : ∀ x, x ∈ bltNames → mg x = none := by
  intro x hx
  obtain ⟨j, hj⟩ := List.getElem?_of_mem hx
  have e : fa[names.length + j]? = some (He.Fa.free x) := by
    unfold fa
    rw [List.getElem?_append_right (by simp)]
    simp only [List.length_map, Nat.add_sub_cancel_left, List.getElem?_map]
    rw [hj]; rfl
  exact He.free_ok X G (c.fact _ e)
end
theorem prog_ok {P : Program} {w : World} {K : PySem.W.Frag} {h : Heap} {mg : Str → Option Value} (X : K.In h) (G : h.Ns mainGlobals mg) (c : He.SaysD fa fnD K) (base : Heap) : Prog P w K mg base (fA K) (fun _ => 0) defs prim fn dn where
  def_ := fun i x hx hp => match i, hx, hp with
    | 0, hx, hp => by
      obtain rfl : ("is_whole" : Str) = x := Option.some.inj hx
      obtain ⟨h1, h2, h3, h4⟩ := chk_of c0
      exact ⟨d0, N0, P0, top 5, rfl, tx0 X G c, h1, h2, h3, h4⟩
    | 1, hx, hp => by
      obtain rfl : ("need_number" : Str) = x := Option.some.inj hx
      obtain ⟨h1, h2, h3, h4⟩ := chk_of c1
      exact ⟨d1, N1, P1, top 6, rfl, tx1 X G c, h1, h2, h3, h4⟩
    | 2, hx, hp => by
      obtain rfl : ("power_by" : Str) = x := Option.some.inj hx
      obtain ⟨h1, h2, h3, h4⟩ := chk_of c2
      exact ⟨d2, N2, P2, top 8, rfl, tx2 X G c, h1, h2, h3, h4⟩
    | 3, hx, hp => by
      obtain rfl : ("ring_hues" : Str) = x := Option.some.inj hx
      obtain ⟨h1, h2, h3, h4⟩ := chk_of c3
      exact ⟨d3, N3, P3, top 9, rfl, tx3 X G c, h1, h2, h3, h4⟩
    | 4, hx, hp => by
      obtain rfl : ("times" : Str) = x := Option.some.inj hx
      obtain ⟨h1, h2, h3, h4⟩ := chk_of c4
      exact ⟨d4, N4, P4, top 10, rfl, tx4 X G c, h1, h2, h3, h4⟩
    | 5, hx, hp => by
      obtain rfl : ("row_at" : Str) = x := Option.some.inj hx
      obtain ⟨h1, h2, h3, h4⟩ := chk_of c5
      exact ⟨d5, N5, P5, top 11, rfl, tx5 X G c, h1, h2, h3, h4⟩
    | 6, hx, hp => by
      obtain rfl : ("need_sides" : Str) = x := Option.some.inj hx
      obtain ⟨h1, h2, h3, h4⟩ := chk_of c6
      exact ⟨d6, N6, P6, top 12, rfl, tx6 X G c, h1, h2, h3, h4⟩
    | 7, hx, hp => by
      obtain rfl : ("drum_rounds" : Str) = x := Option.some.inj hx
      obtain ⟨h1, h2, h3, h4⟩ := chk_of c7
      exact ⟨d7, N7, P7, top 13, rfl, tx7 X G c, h1, h2, h3, h4⟩
    | 8, hx, hp => by
      obtain rfl : ("drum_edge_hues" : Str) = x := Option.some.inj hx
      obtain ⟨h1, h2, h3, h4⟩ := chk_of c8
      exact ⟨d8, N8, P8, top 14, rfl, tx8 X G c, h1, h2, h3, h4⟩
    | 9, hx, hp => by
      obtain rfl : ("drum_face_hues" : Str) = x := Option.some.inj hx
      obtain ⟨h1, h2, h3, h4⟩ := chk_of c9
      exact ⟨d9, N9, P9, top 15, rfl, tx9 X G c, h1, h2, h3, h4⟩
    | 10, hx, hp => by
      obtain rfl : ("drum_pairings" : Str) = x := Option.some.inj hx
      obtain ⟨h1, h2, h3, h4⟩ := chk_of c10
      exact ⟨d10, N10, P10, top 16, rfl, tx10 X G c, h1, h2, h3, h4⟩
    | 11, hx, hp => by
      obtain rfl : ("drum_trees" : Str) = x := Option.some.inj hx
      obtain ⟨h1, h2, h3, h4⟩ := chk_of c11
      exact ⟨d11, N11, P11, top 17, rfl, tx11 X G c, h1, h2, h3, h4⟩
    | 12, hx, hp => nomatch hp
    | 13, hx, hp => nomatch hp
    | 14, hx, hp => by
      obtain rfl : ("_law_some" : Str) = x := Option.some.inj hx
      obtain ⟨h1, h2, h3, h4⟩ := chk_of c14
      exact ⟨d14, N14, P14, top 21, rfl, tx14 X G c, h1, h2, h3, h4⟩
    | 15, hx, hp => by
      obtain rfl : ("_law_rest" : Str) = x := Option.some.inj hx
      obtain ⟨h1, h2, h3, h4⟩ := chk_of c15
      exact ⟨d15, N15, P15, top 22, rfl, tx15 X G c, h1, h2, h3, h4⟩
    | 16, hx, hp => by
      obtain rfl : ("_law_right" : Str) = x := Option.some.inj hx
      obtain ⟨h1, h2, h3, h4⟩ := chk_of c16
      exact ⟨d16, N16, P16, top 23, rfl, tx16 X G c, h1, h2, h3, h4⟩
    | 17, hx, hp => by
      obtain rfl : ("_law_faces_right" : Str) = x := Option.some.inj hx
      obtain ⟨h1, h2, h3, h4⟩ := chk_of c17
      exact ⟨d17, N17, P17, top 24, rfl, tx17 X G c, h1, h2, h3, h4⟩
    | 18, hx, hp => by
      obtain rfl : ("law" : Str) = x := Option.some.inj hx
      obtain ⟨h1, h2, h3, h4⟩ := chk_of c18
      exact ⟨d18, N18, P18, top 25, rfl, tx18 X G c, h1, h2, h3, h4⟩
    | n + 19, hx, hp => by
      exfalso
      unfold fn at hx
      split at hx
      · cases hx
      · rw [List.getElem?_eq_none (by show 19 ≤ n + 19; omega)] at hx; cases hx
  pri := fun i x f hx hp => by
    unfold prim at hp
    split at hp
    · cases hx
    · cases hp
      obtain rfl : ("_law_roll" : Str) = x := Option.some.inj hx
      obtain ⟨h1, fd, F, b⟩ := tx13 X G c
      exact ⟨h1, fd, _, F.kp, b, fun ds Q E q => (by obtain ⟨n, rfl, _⟩ := roll_wp q; rfl), ok_roll F (blts_at X G c _ (by decide))⟩
    · cases hp
  dru := fun i x hx => by
    unfold dn at hx
    split at hx
    · rename_i hi
      obtain rfl : i = 12 := by simpa using hi
      obtain rfl : ("_law_drum" : Str) = x := Option.some.inj hx
      obtain ⟨h1, fd, F, b⟩ := tx12 X G c
      exact ⟨drumM, rfl, h1, fd, _, F.kp, b, fun ds q => (by obtain ⟨c, t, rfl, _⟩ := drum_args q; rfl), ok_drum F (blts_at X G c _ (by decide))⟩
    · cases hx
  blts := blts_at X G c
theorem law_ok {P : Program} {w : World} {K : PySem.W.Frag} {mg : Str → Option Value} {base : Heap} {fd : FuncData} (p : Prog P w K mg base (fA K) (fun _ => 0) defs prim fn dn) (F : FunD K "law" "law" (defArgs (top 25)) (defBody (top 25)) (defScope (top 25)) [] [] (He.ga K "law") fd) (c : He.SaysD fa fnD K) :
    FnOk P w K mg base (L2.CX P w) 12 (He.ga K "law") fd ["_law_script"] (spLaw K) := by
  obtain ⟨h1, h2, h3, h4⟩ := chk_of c18
  have a := p.all 11
  have q := df_ok (P := P) (w := w) (mg := mg) (base := base) (cA := fun _ => 0) (F := Fk defs prim 11) (L := 11) F h1 h2 h3 h4 a.1 a.2 p.blts
  exact q.imp (law_sp law_W)
theorem facts {P : Program} {w : World} {K : PySem.W.Frag} {h : Heap} {mg : Str → Option Value} {f : Addr} (X : K.In h) (G : h.Ns mainGlobals mg) (hfa : mg ("law" : Str) = some (.ref f)) (c : He.SaysD fa fnD K) :
    ∃ fd : FuncData, (∀ (s : Shared) (v : Value), BindsTo s fd ⟨[v], []⟩ [("_law_script", v)]) ∧ ∀ base : Heap, K.In base → base.Ns mainGlobals mg → FnOk P w K mg base CX0 12 f fd ["_law_script"] (spLaw K) := by
  obtain ⟨fd, F⟩ := fun_at c 18 (x := "law") (i := 25) rfl
  have e := hfa.symm.trans (mg_at X G c 18 (x := "law") rfl)
  cases e
  have b := FunD.bindsA (ps := ["_law_script"]) F fun _ _ _ _ _ _ us hl => match us, hl with | [_], _ => rfl
  refine ⟨fd, fun s v => b s [v] rfl, fun base _ _ => to_cx0 (law_ok (prog_ok X G c base) F c) fun vs H Q E E' q => q⟩
end K64
open PySem PySem.W PySem.Calls PyProof.Rows
set_option maxRecDepth 100000 in
set_option maxHeartbeats 0 in
theorem PySem.Challenge.cw_huesandrounds_k64_whole_drums_of_any_num_holds : PySem.Challenge.rw_huesandrounds_k64_whole_drums_of_any_num.Holds := by
  w_on; o_law
  refine HandSHeadRun.head_any (r := OpenLaw.row PySem.Challenge.rw_huesandrounds_k64_whole_drums_of_any_num) (q := view (OpenLaw.row PySem.Challenge.rw_huesandrounds_k64_whole_drums_of_any_num).prog [25]) (H := K64.hk) (ob := K64.ob) (M := K64.steps) (loose := K64.loose) (d := HandSHeadRun.topDef (OpenLaw.row PySem.Challenge.rw_huesandrounds_k64_whole_drums_of_any_num).prog 25) (kwd := []) K64.ob_eq
    (by kernel_rfl) (fun s => by kernel_rfl) K64.run_top (by kernel_rfl) (by kernel_rfl) (by kernel_rfl) (by rfl) (by first | assumption | decide +kernel) (by decide +kernel) ⟨rfl, rfl, rfl, rfl, rfl, by decide +kernel⟩ ?hw ?hc
  case hw => w_witness2
  case hc =>
    refine L2.walk_ofE (l := PySem.Challenge.rw_huesandrounds_k64_whole_drums_of_any_num) (n := 63) (k := 12) (x := "_law_script") (CX := L2.CX0) rfl (by decide) (by kernel_rfl) ⟨rfl, by decide, by decide⟩ ?F (fun _ _ _ _ z => z)
    intro w mg fa h Y G hmg0
    obtain ⟨K, KX, c⟩ := Y
    have hmg : mg ("law" : PySem.Str) = some (.ref fa) := by
      have e : (HandSHeadRun.topDef (OpenLaw.row PySem.Challenge.rw_huesandrounds_k64_whole_drums_of_any_num).prog 25).name = ("law" : PySem.Str) := by kernel_rfl
      rw [← e]
      exact hmg0
    obtain ⟨fd, hb, hF⟩ := K64.facts (P := (PySem.Challenge.rw_huesandrounds_k64_whole_drums_of_any_num).prog) (w := w) KX G hmg c
    exact ⟨K, fd, Ev.spLaw K, KX, hb, fun H a ns hl _ hS => ⟨a, ns, rfl, hS, hl, fun _ => rfl⟩, hF⟩
end
