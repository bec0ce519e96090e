import PyProof.Rows.All
import Wide.All
import OpenK.AllK
import Wide.FinOn
import HandS.ForMost
import HandS.Wide
import HandS.WideBits
import HandS.EndBits
import HandS.Deep
import HandS.Flow
import HandS.Conv
import HandS.TupAny
import HandS.TupMul
import HandS.IsInst
import HandS.Style
import HandS.Walk
import HandS.ForExc
import PyProof.Rows.ChunkLeaf
import HandS.Strs
import KE.GoesMore
import PyProof.DictMoreH
import HandS.Iter
import KE.KDictWalk
import HandS.Small
import HandS.TryOnly
import HandS.ExcIs
import HandS.ExcInit
import KE.KExcIs
import KE.KDictCopyH
import HandS.More
import PySem.Challenge.RW_onestepcourt_k52_letters
set_option Elab.async false
set_option linter.all false
set_option maxRecDepth 100000
set_option maxHeartbeats 4000000
/-! The mirror layer, part A: values, the store, how they stand in a heap. -/
namespace Mi
open PySem L2

inductive W where
  | non | bl (b : Bool) | int (i : Int) | str (x : Str) | tup (xs : List W) | lst (xs : List W) | xst (xs : List W) | ref (i : Nat)
abbrev Fl := List (Str × W)
inductive Ob where
  | lst (xs : List W) | dK (kvs : List (Key × W)) | dT (kvs : List (List Key × W)) | ins (c : Nat) (fs : Fl) | dead
abbrev Sto := List Ob
abbrev Slo := List (Option W)
/-- where the store's objects stand; addresses that only a comprehension in progress may change -/
structure Bt where
  l : List (Option Addr)
  pr : List Addr

/-- what an evaluation comes to -/
inductive Out (α : Type) where
  | ok (a : α) (st : Sto) | exc (c : Nat) (fs : Fl) (st : Sto) | stuck
@[simp] def Out.bind {α β : Type} : Out α → (α → Sto → Out β) → Out β
  | .ok a st, f => f a st
  | .exc c fs st, _ => .exc c fs st
  | .stuck, _ => .stuck
/-- what a statement comes to -/
inductive SO where
  | nx (s : Slo) (st : Sto) | rt (w : W) (st : Sto) | bk (s : Slo) (st : Sto) | ct (s : Slo) (st : Sto) | exc (c : Nat) (fs : Fl) (st : Sto) | stuck
abbrev ME := Slo → Sto → Out W
abbrev MA := Slo → Sto → Out (List W)
abbrev MT := Slo → Sto → Out Bool
abbrev MS := Slo → Sto → SO
abbrev MF := List W → Sto → Out W

def NotIn (β : Bt) (p : Addr) : Prop := (∀ i : Nat, β.l[i]? ≠ some (some p)) ∧ p ∉ β.pr

/-- a list of the module's own top -/
def KL (K : PySem.W.Frag) (a : Addr) (xs : List V) : Prop :=
  ∃ (o : Obj) (its : Array Value) (n : Nat), K.lookup a = some o ∧ o.cls = .type "list" ∧ o.dict = none ∧ o.data = .seq its n ∧ its.size ≤ sizeLine ∧ Vals xs its.toList

mutual
inductive RV (K : PySem.W.Frag) (β : Bt) (H : Hp) : W → V → Prop
  | non : RV K β H .non .non
  | bl (b : Bool) : RV K β H (.bl b) (.bl b)
  | int (i : Int) : RV K β H (.int i) (.int i)
  | str (x : Str) : RV K β H (.str x) (.str x)
  | tup {p : Addr} {ws : List W} {vs : List V} : SqT K H p vs → RVs K β H ws vs → RV K β H (.tup ws) (.ref p)
  | lst {p : Addr} {ws : List W} {vs : List V} : H p = some (.lst vs) → NotIn β p → RVs K β H ws vs → RV K β H (.lst ws) (.ref p)
  | xst {p : Addr} {ws : List W} {vs : List V} : (KL K p vs ∨ ∃ o, H p = some (.frz o (.lst vs))) → RVs K β H ws vs → RV K β H (.xst ws) (.ref p)
  | ref {i : Nat} {a : Addr} : β.l[i]? = some (some a) → RV K β H (.ref i) (.ref a)
  | dead {i : Nat} {v : V} : β.l[i]? = some none → RV K β H (.ref i) v
inductive RVs (K : PySem.W.Frag) (β : Bt) (H : Hp) : List W → List V → Prop
  | nil : RVs K β H [] []
  | cons {w : W} {ws : List W} {v : V} {vs : List V} : RV K β H w v → RVs K β H ws vs → RVs K β H (w :: ws) (v :: vs)
end

structure Ext (K : PySem.W.Frag) (β : Bt) (H : Hp) (β' : Bt) (H' : Hp) : Prop where
  tup : ∀ p vs, SqT K H p vs → SqT K H' p vs
  lst : ∀ p vs, H p = some (.lst vs) → NotIn β p → H' p = some (.lst vs) ∧ NotIn β' p
  frz : ∀ p o u, H p = some (.frz o u) → H' p = some (.frz o u)
  live : ∀ (i : Nat) (o : Option Addr), β.l[i]? = some o → β'.l[i]? = some o ∨ β'.l[i]? = some none
  prot : ∀ p ∈ β.pr, ∀ o, H p = some o → p ∈ β'.pr ∧ H' p = some o
theorem Ext.refl (K : PySem.W.Frag) (β : Bt) (H : Hp) : Ext K β H β H := ⟨fun _ _ h => h, fun _ _ h n => ⟨h, n⟩, fun _ _ _ h => h, fun _ _ h => .inl h, fun _ hp _ h => ⟨hp, h⟩⟩
theorem Ext.trans {K : PySem.W.Frag} {β β1 β2 : Bt} {H H1 H2 : Hp} (a : Ext K β H β1 H1) (b : Ext K β1 H1 β2 H2) : Ext K β H β2 H2 where
  tup := fun p vs h => b.tup p vs (a.tup p vs h)
  lst := fun p vs h n => by
    obtain ⟨h1, n1⟩ := a.lst p vs h n
    exact b.lst p vs h1 n1
  frz := fun p o u h => b.frz p o u (a.frz p o u h)
  live := fun i o h => by
    rcases a.live i o h with h1 | h1
    · exact b.live i o h1
    · rcases b.live i _ h1 with h2 | h2
      · exact .inr h2
      · exact .inr h2
  prot := fun p hp o h => by
    obtain ⟨h1, h2⟩ := a.prot p hp o h
    exact b.prot p h1 o h2

section
variable {K : PySem.W.Frag} {β β' : Bt} {H H' : Hp}
mutual
theorem RV.ext (e : Ext K β H β' H') : ∀ {w : W} {v : V}, RV K β H w v → RV K β' H' w v
  | _, _, .non => .non
  | _, _, .bl b => .bl b
  | _, _, .int i => .int i
  | _, _, .str x => .str x
  | _, _, .tup h r => .tup (e.tup _ _ h) (RVs.ext e r)
  | _, _, .lst h n r => .lst (e.lst _ _ h n).1 (e.lst _ _ h n).2 (RVs.ext e r)
  | _, _, .xst h r => .xst (h.imp (fun x => x) fun ⟨o, x⟩ => ⟨o, e.frz _ _ _ x⟩) (RVs.ext e r)
  | _, _, .ref h => (e.live _ _ h).elim (fun x => .ref x) fun x => .dead x
  | _, _, .dead h => (e.live _ _ h).elim (fun x => .dead x) fun x => .dead x
theorem RVs.ext (e : Ext K β H β' H') : ∀ {ws : List W} {vs : List V}, RVs K β H ws vs → RVs K β' H' ws vs
  | _, _, .nil => .nil
  | _, _, .cons h r => .cons (RV.ext e h) (RVs.ext e r)
end
mutual
/-- an address less is protected -/
theorem RV.drop (hl : β'.l = β.l) (hp : ∀ p, p ∈ β'.pr → p ∈ β.pr) : ∀ {w : W} {v : V}, RV K β H w v → RV K β' H w v
  | _, _, .non => .non
  | _, _, .bl b => .bl b
  | _, _, .int i => .int i
  | _, _, .str x => .str x
  | _, _, .tup h r => .tup h (RVs.drop' hl hp r)
  | _, _, .lst h n r => .lst h ⟨fun i => by rw [hl]; exact n.1 i, fun z => n.2 (hp _ z)⟩ (RVs.drop' hl hp r)
  | _, _, .xst h r => .xst h (RVs.drop' hl hp r)
  | _, _, .ref h => .ref (by rw [hl]; exact h)
  | _, _, .dead h => .dead (by rw [hl]; exact h)
theorem RVs.drop' (hl : β'.l = β.l) (hp : ∀ p, p ∈ β'.pr → p ∈ β.pr) : ∀ {ws : List W} {vs : List V}, RVs K β H ws vs → RVs K β' H ws vs
  | _, _, .nil => .nil
  | _, _, .cons h r => .cons (RV.drop hl hp h) (RVs.drop' hl hp r)
end
theorem RVs.length : ∀ {ws : List W} {vs : List V}, RVs K β H ws vs → ws.length = vs.length
  | _, _, .nil => rfl
  | _, _, .cons _ r => by rw [List.length_cons, List.length_cons, RVs.length r]
theorem RVs.get : ∀ {ws : List W} {vs : List V} {i : Nat} {w : W}, RVs K β H ws vs → ws[i]? = some w → ∃ v, vs[i]? = some v ∧ RV K β H w v
  | _, _, _, _, .nil, e => by simp at e
  | _, _, 0, _, .cons h r, e => by simp at e; subst e; exact ⟨_, rfl, h⟩
  | _, _, i + 1, w, .cons h r, e => by
    obtain ⟨v, h1, h2⟩ := RVs.get (i := i) (w := w) r (by simpa using e)
    exact ⟨v, by simpa using h1, h2⟩
theorem RVs.getv : ∀ {ws : List W} {vs : List V} {i : Nat} {v : V}, RVs K β H ws vs → vs[i]? = some v → ∃ w, ws[i]? = some w ∧ RV K β H w v
  | _, _, _, _, .nil, e => by simp at e
  | _, _, 0, _, .cons h r, e => by simp at e; subst e; exact ⟨_, rfl, h⟩
  | _, _, i + 1, v, .cons h r, e => by
    obtain ⟨w, h1, h2⟩ := RVs.getv (i := i) (v := v) r (by simpa using e)
    exact ⟨w, by simpa using h1, h2⟩
theorem RVs.append : ∀ {ws ws' : List W} {vs vs' : List V}, RVs K β H ws vs → RVs K β H ws' vs' → RVs K β H (ws ++ ws') (vs ++ vs')
  | _, _, _, _, .nil, s => s
  | _, _, _, _, .cons h r, s => .cons h (RVs.append r s)
theorem RVs.take : ∀ {ws : List W} {vs : List V} (n : Nat), RVs K β H ws vs → RVs K β H (ws.take n) (vs.take n)
  | _, _, 0, _ => by simp; exact .nil
  | _, _, _ + 1, .nil => by simp; exact .nil
  | _, _, n + 1, .cons h r => .cons h (RVs.take n r)
theorem RVs.drop : ∀ {ws : List W} {vs : List V} (n : Nat), RVs K β H ws vs → RVs K β H (ws.drop n) (vs.drop n)
  | _, _, 0, r => r
  | _, _, _ + 1, .nil => by simp; exact .nil
  | _, _, n + 1, .cons _ r => RVs.drop n r
theorem RVs.set {w : W} {v : V} (h : RV K β H w v) : ∀ {ws : List W} {vs : List V} (i : Nat), RVs K β H ws vs → RVs K β H (ws.set i w) (vs.set i v)
  | _, _, _, .nil => .nil
  | _, _, 0, .cons _ r => .cons h r
  | _, _, i + 1, .cons q r => .cons q (RVs.set h i r)
theorem RVs.rep {ws : List W} {vs : List V} (h : RVs K β H ws vs) : ∀ k : Nat, RVs K β H (List.replicate k ws).flatten (List.replicate k vs).flatten
  | 0 => .nil
  | k + 1 => by
    rw [List.replicate_succ, List.replicate_succ, List.flatten_cons, List.flatten_cons]
    exact RVs.append h (RVs.rep h k)
theorem RVs.dropLast {ws : List W} {vs : List V} (h : RVs K β H ws vs) : RVs K β H ws.dropLast vs.dropLast := by
  rw [List.dropLast_eq_take, List.dropLast_eq_take, h.length]
  exact h.take _
theorem RVs.reverse : ∀ {ws : List W} {vs : List V}, RVs K β H ws vs → RVs K β H ws.reverse vs.reverse
  | _, _, .nil => .nil
  | _, _, .cons h r => by
    rw [List.reverse_cons, List.reverse_cons]
    exact (RVs.reverse r).append (.cons h .nil)
theorem RVs.eraseIdx : ∀ {ws : List W} {vs : List V} (i : Nat), RVs K β H ws vs → RVs K β H (ws.eraseIdx i) (vs.eraseIdx i)
  | _, _, _, .nil => .nil
  | _, _, 0, .cons _ r => r
  | _, _, i + 1, .cons q r => .cons q (RVs.eraseIdx i r)
end

/-- fields, a dict's pairs -/
inductive RF (K : PySem.W.Frag) (β : Bt) (H : Hp) {κ : Type} : List (κ × W) → List (κ × V) → Prop
  | nil : RF K β H [] []
  | cons {k : κ} {w : W} {v : V} {fs : List (κ × W)} {gs : List (κ × V)} : RV K β H w v → RF K β H fs gs → RF K β H ((k, w) :: fs) ((k, v) :: gs)
section
variable {K : PySem.W.Frag} {β β' : Bt} {H H' : Hp} {κ : Type}
theorem RF.ext (e : Ext K β H β' H') : ∀ {fs : List (κ × W)} {gs : List (κ × V)}, RF K β H fs gs → RF K β' H' fs gs
  | _, _, .nil => .nil
  | _, _, .cons h r => .cons (h.ext e) (RF.ext e r)
theorem RF.drop' (hl : β'.l = β.l) (hp : ∀ p, p ∈ β'.pr → p ∈ β.pr) : ∀ {fs : List (κ × W)} {gs : List (κ × V)}, RF K β H fs gs → RF K β' H fs gs
  | _, _, .nil => .nil
  | _, _, .cons h r => .cons (h.drop hl hp) (RF.drop' hl hp r)
theorem RF.length : ∀ {fs : List (κ × W)} {gs : List (κ × V)}, RF K β H fs gs → fs.length = gs.length
  | _, _, .nil => rfl
  | _, _, .cons _ r => by rw [List.length_cons, List.length_cons, RF.length r]
theorem RF.look [BEq κ] [LawfulBEq κ] {k : κ} : ∀ {fs : List (κ × W)} {gs : List (κ × V)} {w : W}, RF K β H fs gs → fs.lookup k = some w → ∃ v, gs.lookup k = some v ∧ RV K β H w v
  | _, _, _, .nil, e => by cases e
  | _, _, w, .cons (k := j) (w := u) (v := v) (fs := fs) (gs := gs) h r, e => by
    rw [List.lookup_cons] at e ⊢
    cases hk : (k == j) with
    | true =>
      rw [hk] at e
      cases e
      exact ⟨v, rfl, h⟩
    | false =>
      rw [hk] at e
      exact RF.look r e
theorem RF.lookN [BEq κ] [LawfulBEq κ] {k : κ} : ∀ {fs : List (κ × W)} {gs : List (κ × V)}, RF K β H fs gs → fs.lookup k = none → gs.lookup k = none
  | _, _, .nil, _ => rfl
  | _, _, .cons (k := j) h r, e => by
    rw [List.lookup_cons] at e ⊢
    cases hk : (k == j) with
    | true => rw [hk] at e; cases e
    | false =>
      rw [hk] at e
      exact RF.lookN r e
end
/-- a field stored -/
def putW (f : Str) (v : W) : Fl → Fl
  | [] => [(f, v)]
  | (g, u) :: r => if g = f then (f, v) :: r else (g, u) :: putW f v r
end Mi
/-! The mirror layer, part B: the store in a heap; what is wanted of an outcome. -/
namespace Mi
open PySem L2

abbrev Bt.push (β : Bt) (p : Addr) : Bt := ⟨β.l ++ [some p], β.pr⟩
abbrev Bt.letgo (β : Bt) (i : Nat) : Bt := ⟨β.l.set i none, β.pr⟩
abbrev Bt.guard (β : Bt) (p : Addr) : Bt := ⟨β.l, p :: β.pr⟩

section
variable (K : PySem.W.Frag) (Cl : Nat → Addr)
def RO (β : Bt) (H : Hp) (a : Addr) : Ob → Prop
  | .lst ws => ∃ vs, H a = some (.lst vs) ∧ RVs K β H ws vs
  | .dK kvs => ∃ gs, H a = some (.dK gs) ∧ RF K β H kvs gs
  | .dT kvs => ∃ gs, H a = some (.dT gs) ∧ RF K β H kvs gs
  | .ins c fs => ∃ dx gs, H a = some (.ins (Cl c) dx gs) ∧ RF K β H fs gs
  | .dead => False
structure HR (β : Bt) (H : Hp) (st : Sto) : Prop where
  len : β.l.length = st.length
  inj : ∀ (i j : Nat) (a : Addr), β.l[i]? = some (some a) → β.l[j]? = some (some a) → i = j
  ob : ∀ (i : Nat) (a : Addr) (o : Ob), β.l[i]? = some (some a) → st[i]? = some o → RO K Cl β H a o
  dead : ∀ i : Nat, β.l[i]? = some none → st[i]? = some .dead
  prot : ∀ p ∈ β.pr, (∃ o, H p = some o) ∧ ∀ i : Nat, β.l[i]? ≠ some (some p)
def SR (β : Bt) (H : Hp) (s : Slo) (σ : L2.St) : Prop := s.length = σ.length ∧ ∀ (i : Nat) (w : W), s[i]? = some (some w) → ∃ v, σ[i]? = some (some v) ∧ RV K β H w v
/-- an exception's own dict -/
def RX (β : Bt) (H : Hp) (fs : Fl) (d : Option Addr) : Prop := (fs = [] ∧ d = none) ∨ ∃ dd gs, d = some dd ∧ H dd = some (.xd gs) ∧ RF K β H fs gs

def PoG {α ω : Type} (R : Bt → Hp → α → ω → Prop) (E : XK) (β : Bt) (H : Hp) (Q : ω → Hp → Prop) : Out α → Prop
  | .ok a st => ∀ β' H' v, Ext K β H β' H' → HR K Cl β' H' st → R β' H' a v → Q v H'
  | .exc c fs st => ∀ β' H' d, Ext K β H β' H' → HR K Cl β' H' st → RX K β' H' fs d → E (.ref (Cl c)) d H'
  | .stuck => False
abbrev Po (E : XK) := PoG K Cl (RV K) E
abbrev PoL (E : XK) := PoG K Cl (RVs K) E
abbrev PoB (E : XK) := PoG K Cl (fun _ _ (a b : Bool) => a = b) E
def PoS (E : XK) (D : Ends) (β : Bt) (H : Hp) : SO → Prop
  | .nx s st => ∀ β' H' σ', Ext K β H β' H' → HR K Cl β' H' st → SR K β' H' s σ' → D.nx σ' H'
  | .rt w st => ∀ β' H' v, Ext K β H β' H' → HR K Cl β' H' st → RV K β' H' w v → D.rt v H'
  | .bk s st => ∀ β' H' σ', Ext K β H β' H' → HR K Cl β' H' st → SR K β' H' s σ' → D.bk σ' H'
  | .ct s st => ∀ β' H' σ', Ext K β H β' H' → HR K Cl β' H' st → SR K β' H' s σ' → D.ct σ' H'
  | .exc c fs st => ∀ β' H' d, Ext K β H β' H' → HR K Cl β' H' st → RX K β' H' fs d → E (.ref (Cl c)) d H'
  | .stuck => False
def SE (E : XK) (t : TE) (m : ME) : Prop := ∀ β H σ s st Q, HR K Cl β H st → SR K β H s σ → Po K Cl E β H Q (m s st) → t σ H Q
def SA (E : XK) (t : TA) (m : MA) : Prop := ∀ β H σ s st Q, HR K Cl β H st → SR K β H s σ → PoL K Cl E β H Q (m s st) → t σ H Q
def ST (E : XK) (t : TT) (m : MT) : Prop := ∀ β H σ s st Q, HR K Cl β H st → SR K β H s σ → PoB K Cl E β H Q (m s st) → t σ H Q
def SS (E : XK) (t : TS) (m : MS) : Prop := ∀ β H σ s st D, HR K Cl β H st → SR K β H s σ → PoS K Cl E D β H (m s st) → t D σ H
end

section
variable {K : PySem.W.Frag} {Cl : Nat → Addr} {E : XK} {β β' : Bt} {H H' : Hp} {α ω : Type} {R : Bt → Hp → α → ω → Prop} {Q Q' : ω → Hp → Prop} {st : Sto} {s : Slo} {σ : L2.St} {o : Out α}
theorem PoG.ext (e : Ext K β H β' H') (h : PoG K Cl R E β H Q o) : PoG K Cl R E β' H' Q o := by
  cases o with
  | ok a st => exact fun β2 H2 v e2 hr r => h β2 H2 v (e.trans e2) hr r
  | exc c fs st => exact fun β2 H2 d e2 hr r => h β2 H2 d (e.trans e2) hr r
  | stuck => exact h
theorem PoS.ext {D : Ends} {o : SO} (e : Ext K β H β' H') (h : PoS K Cl E D β H o) : PoS K Cl E D β' H' o := by
  cases o with
  | nx s st => exact fun β2 H2 v e2 hr r => h β2 H2 v (e.trans e2) hr r
  | rt s st => exact fun β2 H2 v e2 hr r => h β2 H2 v (e.trans e2) hr r
  | bk s st => exact fun β2 H2 v e2 hr r => h β2 H2 v (e.trans e2) hr r
  | ct s st => exact fun β2 H2 v e2 hr r => h β2 H2 v (e.trans e2) hr r
  | exc c fs st => exact fun β2 H2 d e2 hr r => h β2 H2 d (e.trans e2) hr r
  | stuck => exact h
theorem SR.ext (e : Ext K β H β' H') (h : SR K β H s σ) : SR K β' H' s σ := ⟨h.1, fun i w hw => by
  obtain ⟨v, h1, h2⟩ := h.2 i w hw
  exact ⟨v, h1, h2.ext e⟩⟩
theorem SR.set (h : SR K β H s σ) {i : Nat} {w : W} {v : V} (r : RV K β H w v) : SR K β H (s.set i (some w)) (σ.set i (some v)) := by
  refine ⟨by rw [List.length_set, List.length_set, h.1], fun j u hj => ?_⟩
  by_cases e : i = j
  · subst e
    by_cases hl : i < s.length
    · rw [List.getElem?_set_self hl] at hj
      cases hj
      exact ⟨v, by rw [List.getElem?_set_self (by rw [← h.1]; exact hl)], r⟩
    · rw [List.getElem?_eq_none (by rw [List.length_set]; omega)] at hj
      cases hj
  · rw [List.getElem?_set_ne e] at hj ⊢
    exact h.2 j u hj
theorem HR.len' (h : HR K Cl β H st) {i : Nat} {o : Option Addr} (e : β.l[i]? = some o) : i < st.length := by
  rw [← h.len]
  exact (List.getElem?_eq_some_iff.mp e).1
/-- what a live place of the store holds -/
theorem HR.at (h : HR K Cl β H st) {i : Nat} {ob : Ob} (e : st[i]? = some ob) (hd : ob ≠ .dead) : ∃ a, β.l[i]? = some (some a) ∧ RO K Cl β H a ob := by
  have hi : i < β.l.length := by
    rw [h.len]
    exact (List.getElem?_eq_some_iff.mp e).1
  cases hb : β.l[i]? with
  | none => rw [List.getElem?_eq_none_iff] at hb; omega
  | some o =>
    cases o with
    | none =>
      rw [h.dead i hb] at e
      exact absurd (Option.some.inj e).symm hd
    | some a => exact ⟨a, rfl, h.ob i a ob hb e⟩
/-- a ref with a live object -/
theorem RV.atRef {i : Nat} {v : V} {ob : Ob} (r : RV K β H (.ref i) v) (h : HR K Cl β H st) (e : st[i]? = some ob) (hd : ob ≠ .dead) : ∃ a, v = .ref a ∧ β.l[i]? = some (some a) ∧ RO K Cl β H a ob := by
  obtain ⟨a, hb, ro⟩ := h.at e hd
  cases r with
  | ref h1 =>
    rw [hb] at h1
    cases h1
    exact ⟨a, rfl, hb, ro⟩
  | dead h1 =>
    rw [hb] at h1
    cases h1
theorem RO.some {a : Addr} {ob : Ob} (r : RO K Cl β H a ob) : ∃ u, H a = some u ∧ Mut (some u) := by
  cases ob with
  | lst ws => obtain ⟨_, h, _⟩ := r; exact ⟨_, h, trivial⟩
  | dK ws => obtain ⟨_, h, _⟩ := r; exact ⟨_, h, trivial⟩
  | dT ws => obtain ⟨_, h, _⟩ := r; exact ⟨_, h, trivial⟩
  | ins c fs => obtain ⟨_, _, h, _⟩ := r; exact ⟨_, h, trivial⟩
  | dead => exact r.elim
theorem RO.ext {a : Addr} {ob : Ob} (e : Ext K β H β' H') (ha : H' a = H a) (r : RO K Cl β H a ob) : RO K Cl β' H' a ob := by
  cases ob with
  | lst ws => obtain ⟨vs, h, r⟩ := r; exact ⟨vs, ha.trans h, r.ext e⟩
  | dK ws => obtain ⟨vs, h, r⟩ := r; exact ⟨vs, ha.trans h, r.ext e⟩
  | dT ws => obtain ⟨vs, h, r⟩ := r; exact ⟨vs, ha.trans h, r.ext e⟩
  | ins c fs => obtain ⟨dx, vs, h, r⟩ := r; exact ⟨dx, vs, ha.trans h, r.ext e⟩
  | dead => exact r.elim

/-! ### a new object that the store does not know -/
theorem sqT_ne {p q : Addr} {o : HO} {vs : List V} (h : H p = none) (hq : SqT K H q vs) : SqT K (upd H p o) q vs := by
  rcases hq with (hq | ⟨u, hq⟩) | hq
  · exact .inl (.inl (by rw [upd_ne (ne_of_none hq h)]; exact hq))
  · exact .inl (.inr ⟨u, by rw [upd_ne (ne_of_none hq h)]; exact hq⟩)
  · exact .inr hq
theorem Ext.new {p : Addr} {o : HO} (h : H p = none) : Ext K β H β (upd H p o) where
  tup := fun q vs hq => sqT_ne h hq
  lst := fun q vs hq n => ⟨by rw [upd_ne (ne_of_none hq h)]; exact hq, n⟩
  frz := fun q u x hq => by rw [upd_ne (ne_of_none hq h)]; exact hq
  live := fun _ _ h => .inl h
  prot := fun q hp u hq => ⟨hp, by rw [upd_ne (ne_of_none hq h)]; exact hq⟩
theorem HR.fresh (h : HR K Cl β H st) {p : Addr} (hp : H p = none) : NotIn β p := by
  refine ⟨fun i hi => ?_, fun hi => ?_⟩
  · have hl := h.len' hi
    obtain ⟨ob, ho⟩ : ∃ ob, st[i]? = some ob := ⟨st[i], List.getElem?_eq_getElem hl⟩
    obtain ⟨u, hu, _⟩ := (h.ob i p ob hi ho).some
    rw [hp] at hu
    cases hu
  · obtain ⟨⟨o, ho⟩, _⟩ := h.prot p hi
    rw [hp] at ho
    cases ho
theorem HR.new (h : HR K Cl β H st) {p : Addr} {o : HO} (hp : H p = none) : HR K Cl β (upd H p o) st where
  len := h.len
  inj := h.inj
  ob := fun i a ob hi ho => by
    have r := h.ob i a ob hi ho
    obtain ⟨u, hu, _⟩ := r.some
    exact r.ext (Ext.new hp) (upd_ne (ne_of_none hu hp))
  dead := h.dead
  prot := fun q hq => by
    obtain ⟨⟨u, hu⟩, n⟩ := h.prot q hq
    exact ⟨⟨u, by rw [upd_ne (ne_of_none hu hp)]; exact hu⟩, n⟩
/-- any heap that keeps all that is tracked -/
theorem Ext.same (e : Same H H') : Ext K β H β H' where
  tup := fun q vs hq => by
    rcases hq with (hq | ⟨u, hq⟩) | hq
    · exact .inl (.inl (e _ _ hq))
    · exact .inl (.inr ⟨u, e _ _ hq⟩)
    · exact .inr hq
  lst := fun q vs hq n => ⟨e _ _ hq, n⟩
  frz := fun q u x hq => e _ _ hq
  live := fun _ _ h => .inl h
  prot := fun q hp u hq => ⟨hp, e _ _ hq⟩
theorem HR.same (h : HR K Cl β H st) (e : Same H H') : HR K Cl β H' st where
  len := h.len
  inj := h.inj
  ob := fun i a ob hi ho => by
    have r := h.ob i a ob hi ho
    obtain ⟨u, hu, _⟩ := r.some
    exact r.ext (Ext.same e) (by rw [e _ _ hu, hu])
  dead := h.dead
  prot := fun q hq => by
    obtain ⟨⟨u, hu⟩, n⟩ := h.prot q hq
    exact ⟨⟨u, e _ _ hu⟩, n⟩

/-! ### a new object of the store -/
theorem push_at {p : Addr} {i : Nat} {o : Option Addr} (h : (β.push p).l[i]? = some o) : β.l[i]? = some o ∨ (i = β.l.length ∧ o = some p) := by
  by_cases hl : i < β.l.length
  · rw [List.getElem?_append_left hl] at h
    exact .inl h
  · rw [List.getElem?_append_right (by omega)] at h
    cases hk : i - β.l.length with
    | zero =>
      rw [hk] at h
      exact .inr ⟨by omega, (Option.some.inj h).symm⟩
    | succ k => rw [hk] at h; simp at h
theorem Ext.push {p : Addr} {o : HO} (h : H p = none) : Ext K β H (β.push p) (upd H p o) where
  tup := fun q vs hq => sqT_ne h hq
  lst := fun q vs hq n => ⟨by rw [upd_ne (ne_of_none hq h)]; exact hq, fun i hi => by
    have hne := ne_of_none hq h
    rcases push_at hi with hi | ⟨_, hi⟩
    · exact n.1 i hi
    · exact hne (Option.some.inj hi), n.2⟩
  frz := fun q u x hq => by rw [upd_ne (ne_of_none hq h)]; exact hq
  live := fun i o hi => .inl (by rw [List.getElem?_append_left (List.getElem?_eq_some_iff.mp hi).1]; exact hi)
  prot := fun q hp u hq => ⟨hp, by rw [upd_ne (ne_of_none hq h)]; exact hq⟩
theorem HR.push (h : HR K Cl β H st) {p : Addr} {o : HO} {ob : Ob} (hp : H p = none) (r : RO K Cl (β.push p) (upd H p o) p ob) : HR K Cl (β.push p) (upd H p o) (st ++ [ob]) where
  len := by
    show (β.l ++ [some p]).length = _
    rw [List.length_append, List.length_append, h.len] <;> rfl
  inj := fun i j a hi hj => by
    have nf := (h.fresh hp).1
    rcases push_at hi with hi | ⟨hi, ei⟩
    · rcases push_at hj with hj | ⟨hj, ej⟩
      · exact h.inj i j a hi hj
      · cases ej
        exact absurd hi (nf i)
    · rcases push_at hj with hj | ⟨hj, ej⟩
      · cases ei
        exact absurd hj (nf j)
      · rw [hi, hj]
  ob := fun i a ob' hi ho => by
    rcases push_at hi with hi | ⟨hi, ei⟩
    · have hl := h.len' hi
      rw [List.getElem?_append_left hl] at ho
      have r' := h.ob i a ob' hi ho
      obtain ⟨u, hu, _⟩ := r'.some
      exact r'.ext (Ext.push hp) (upd_ne (ne_of_none hu hp))
    · cases ei
      rename_i hi2
      have hi3 : i = st.length := by rw [← h.len]; exact hi2
      rw [hi3, List.getElem?_append_right (Nat.le_refl _), Nat.sub_self] at ho
      cases ho
      exact r
  dead := fun i hi => by
    rcases push_at hi with hi | ⟨_, ei⟩
    · have hl := h.len' hi
      rw [List.getElem?_append_left hl]
      exact h.dead i hi
    · cases ei
  prot := fun q hq => by
    obtain ⟨⟨u, hu⟩, n⟩ := h.prot q hq
    have hne := ne_of_none hu hp
    refine ⟨⟨u, by rw [upd_ne hne]; exact hu⟩, fun i hi => ?_⟩
    rcases push_at hi with hi | ⟨_, hi⟩
    · exact n i hi
    · exact hne (Option.some.inj hi)
theorem push_last {p : Addr} : (β.push p).l[β.l.length]? = some (some p) := by
  show (β.l ++ [some p])[β.l.length]? = _
  simp

/-! ### an object of the store changes -/
theorem Ext.mut (hr : HR K Cl β H st) {i : Nat} {a : Addr} {o u : HO} (hb : β.l[i]? = some (some a)) (hu : H a = some u) (hm : Mut (some u)) : Ext K β H β (upd H a o) where
  tup := fun q vs hq => by
    rcases hq with (hq | ⟨x, hq⟩) | hq
    · exact .inl (.inl (by rw [upd_ne (fun e => by subst e; rw [hu] at hq; cases hq; exact hm)]; exact hq))
    · exact .inl (.inr ⟨x, by rw [upd_ne (fun e => by subst e; rw [hu] at hq; cases hq; exact hm)]; exact hq⟩)
    · exact .inr hq
  lst := fun q vs hq n => ⟨by rw [upd_ne (fun e => by subst e; exact n.1 i hb)]; exact hq, n⟩
  frz := fun q x y hq => by rw [upd_ne (fun e => by subst e; rw [hu] at hq; cases hq; exact hm)]; exact hq
  live := fun _ _ h => .inl h
  prot := fun q hp u hq => ⟨hp, by rw [upd_ne (fun e => by subst e; exact (hr.prot _ hp).2 i hb)]; exact hq⟩
theorem HR.mut (h : HR K Cl β H st) {i : Nat} {a : Addr} {o u : HO} {ob : Ob} (hb : β.l[i]? = some (some a)) (hu : H a = some u) (hm : Mut (some u)) (r : RO K Cl β (upd H a o) a ob) : HR K Cl β (upd H a o) (st.set i ob) where
  len := by rw [List.length_set]; exact h.len
  inj := h.inj
  ob := fun j b ob' hj ho => by
    by_cases e : i = j
    · subst e
      rw [hb] at hj
      cases hj
      rw [List.getElem?_set_self (h.len' hb)] at ho
      cases ho
      exact r
    · rw [List.getElem?_set_ne e] at ho
      have hne : b ≠ a := fun z => by
        subst z
        exact e (h.inj i j b hb hj)
      exact (h.ob j b ob' hj ho).ext (Ext.mut h hb hu hm) (upd_ne hne)
  dead := fun j hj => by
    have e : i ≠ j := fun z => by
      subst z
      rw [hb] at hj
      cases hj
    rw [List.getElem?_set_ne e]
    exact h.dead j hj
  prot := fun q hq => by
    obtain ⟨⟨u, hu'⟩, n⟩ := h.prot q hq
    refine ⟨?_, n⟩
    by_cases e : q = a
    · subst e
      exact absurd hb (n i)
    · exact ⟨u, by rw [upd_ne e]; exact hu'⟩

/-! ### an object of the store is let go: its list becomes a value -/
theorem let_at {i j : Nat} {o : Option Addr} (h : (β.letgo i).l[j]? = some o) : (j = i ∧ o = none) ∨ (j ≠ i ∧ β.l[j]? = some o) := by
  by_cases e : i = j
  · subst e
    by_cases hl : i < β.l.length
    · rw [List.getElem?_set_self hl] at h
      exact .inl ⟨rfl, (Option.some.inj h).symm⟩
    · rw [List.getElem?_eq_none (by rw [List.length_set]; omega)] at h
      cases h
  · rw [List.getElem?_set_ne e] at h
    exact .inr ⟨fun z => e z.symm, h⟩
theorem Ext.letgo {i : Nat} : Ext K β H (β.letgo i) H where
  tup := fun q vs hq => hq
  lst := fun q vs hq n => ⟨hq, fun j hj => by
    rcases let_at hj with ⟨_, e⟩ | ⟨_, e⟩
    · cases e
    · exact n.1 j e, n.2⟩
  frz := fun q x y hq => hq
  live := fun j o hj => by
    by_cases e : i = j
    · subst e
      exact .inr (by rw [List.getElem?_set_self (List.getElem?_eq_some_iff.mp hj).1])
    · exact .inl (by rw [List.getElem?_set_ne e]; exact hj)
  prot := fun q hp u hq => ⟨hp, hq⟩
theorem HR.letgo (h : HR K Cl β H st) {i : Nat} {a : Addr} (hb : β.l[i]? = some (some a)) : HR K Cl (β.letgo i) H (st.set i .dead) where
  len := by
    show (β.l.set i none).length = _
    rw [List.length_set, List.length_set]
    exact h.len
  inj := fun j k b hj hk => by
    rcases let_at hj with ⟨_, e⟩ | ⟨_, e⟩
    · cases e
    · rcases let_at hk with ⟨_, e'⟩ | ⟨_, e'⟩
      · cases e'
      · exact h.inj j k b e e'
  ob := fun j b ob hj ho => by
    rcases let_at hj with ⟨_, e⟩ | ⟨ne, e⟩
    · cases e
    · rw [List.getElem?_set_ne (fun z => ne z.symm)] at ho
      exact (h.ob j b ob e ho).ext Ext.letgo rfl
  dead := fun j hj => by
    rcases let_at hj with ⟨e, _⟩ | ⟨ne, e⟩
    · subst e
      rw [List.getElem?_set_self (h.len' hb)]
    · rw [List.getElem?_set_ne (fun z => ne z.symm)]
      exact h.dead j e
  prot := fun q hq => by
    obtain ⟨hu, n⟩ := h.prot q hq
    refine ⟨hu, fun j hj => ?_⟩
    rcases let_at hj with ⟨_, e⟩ | ⟨_, e⟩
    · cases e
    · exact n j e

/-! ### a list that a comprehension makes: guarded, outside of the store -/
theorem Ext.guard {p : Addr} {o : HO} (h : H p = none) : Ext K β H (β.guard p) (upd H p o) where
  tup := fun q vs hq => sqT_ne h hq
  lst := fun q vs hq n => ⟨by rw [upd_ne (ne_of_none hq h)]; exact hq, n.1, fun z => by
    rcases List.mem_cons.mp z with z | z
    · exact ne_of_none hq h z
    · exact n.2 z⟩
  frz := fun q u x hq => by rw [upd_ne (ne_of_none hq h)]; exact hq
  live := fun _ _ h => .inl h
  prot := fun q hp u hq => ⟨List.mem_cons_of_mem _ hp, by rw [upd_ne (ne_of_none hq h)]; exact hq⟩
theorem HR.guard (h : HR K Cl β H st) {p : Addr} {o : HO} (hp : H p = none) : HR K Cl (β.guard p) (upd H p o) st where
  len := h.len
  inj := h.inj
  ob := fun i a ob hi ho => by
    have r := h.ob i a ob hi ho
    obtain ⟨u, hu, _⟩ := r.some
    exact r.ext (Ext.guard hp) (upd_ne (ne_of_none hu hp))
  dead := h.dead
  prot := fun q hq => by
    rcases List.mem_cons.mp hq with e | hq
    · subst e
      exact ⟨⟨o, upd_same⟩, (h.fresh hp).1⟩
    · obtain ⟨⟨u, hu⟩, n⟩ := h.prot q hq
      exact ⟨⟨u, by rw [upd_ne (ne_of_none hu hp)]; exact hu⟩, n⟩
/-- the guarded list at p has changed: what was known is known again -/
theorem Ext.gset {p : Addr} {vs : List V} {o : HO} (hu : H p = some (.lst vs)) (hp : p ∈ β.pr) (β0 : Bt) (H0 : Hp) (e : Ext K β0 H0 β H) (h0 : H0 p = none) : Ext K β0 H0 β (upd H p o) where
  tup := fun q us hq => by
    have hq' := e.tup q us hq
    rcases hq with (hq | ⟨x, hq⟩) | hq
    · rcases hq' with (hq' | ⟨x, hq'⟩) | hq'
      · exact .inl (.inl (by rw [upd_ne (ne_of_none hq h0)]; exact hq'))
      · exact .inl (.inr ⟨x, by rw [upd_ne (ne_of_none hq h0)]; exact hq'⟩)
      · exact .inr hq'
    · rcases hq' with (hq' | ⟨x, hq'⟩) | hq'
      · exact .inl (.inl (by rw [upd_ne (ne_of_none hq h0)]; exact hq'))
      · exact .inl (.inr ⟨x, by rw [upd_ne (ne_of_none hq h0)]; exact hq'⟩)
      · exact .inr hq'
    · exact .inr hq
  lst := fun q us hq n => ⟨by rw [upd_ne (ne_of_none hq h0)]; exact (e.lst q us hq n).1, (e.lst q us hq n).2⟩
  frz := fun q u x hq => by rw [upd_ne (ne_of_none hq h0)]; exact e.frz q u x hq
  live := e.live
  prot := fun q hq u hu => ⟨(e.prot q hq u hu).1, by rw [upd_ne (ne_of_none hu h0)]; exact (e.prot q hq u hu).2⟩
/-- the same for what was reckoned while the list was guarded -/
structure Keep (K : PySem.W.Frag) (β : Bt) (H H' : Hp) : Prop where
  tup : ∀ p vs, SqT K H p vs → SqT K H' p vs
  lst : ∀ p vs, H p = some (.lst vs) → NotIn β p → H' p = some (.lst vs)
  frz : ∀ p o u, H p = some (.frz o u) → H' p = some (.frz o u)
mutual
theorem RV.keep (e : Keep K β H H') : ∀ {w : W} {v : V}, RV K β H w v → RV K β H' w v
  | _, _, .non => .non
  | _, _, .bl b => .bl b
  | _, _, .int i => .int i
  | _, _, .str x => .str x
  | _, _, .tup h r => .tup (e.tup _ _ h) (RVs.keep e r)
  | _, _, .lst h n r => .lst (e.lst _ _ h n) n (RVs.keep e r)
  | _, _, .xst h r => .xst (h.imp (fun x => x) fun ⟨o, x⟩ => ⟨o, e.frz _ _ _ x⟩) (RVs.keep e r)
  | _, _, .ref h => .ref h
  | _, _, .dead h => .dead h
theorem RVs.keep (e : Keep K β H H') : ∀ {ws : List W} {vs : List V}, RVs K β H ws vs → RVs K β H' ws vs
  | _, _, .nil => .nil
  | _, _, .cons h r => .cons (RV.keep e h) (RVs.keep e r)
end
theorem RF.keep {κ : Type} (e : Keep K β H H') : ∀ {fs : List (κ × W)} {gs : List (κ × V)}, RF K β H fs gs → RF K β H' fs gs
  | _, _, .nil => .nil
  | _, _, .cons h r => .cons (h.keep e) (RF.keep e r)
theorem Keep.gset {p : Addr} {vs : List V} {o : HO} (hu : H p = some (.lst vs)) (hp : p ∈ β.pr) : Keep K β H (upd H p o) where
  tup := fun q us hq => by
    rcases hq with (hq | ⟨x, hq⟩) | hq
    · exact .inl (.inl (by rw [upd_ne (fun e => by subst e; rw [hu] at hq; cases hq)]; exact hq))
    · exact .inl (.inr ⟨x, by rw [upd_ne (fun e => by subst e; rw [hu] at hq; cases hq)]; exact hq⟩)
    · exact .inr hq
  lst := fun q us hq n => by rw [upd_ne (fun e => by subst e; exact n.2 hp)]; exact hq
  frz := fun q x y hq => by rw [upd_ne (fun e => by subst e; rw [hu] at hq; cases hq)]; exact hq
theorem RO.keep {a : Addr} {ob : Ob} (e : Keep K β H H') (ha : H' a = H a) (r : RO K Cl β H a ob) : RO K Cl β H' a ob := by
  cases ob with
  | lst ws => obtain ⟨vs, h, r⟩ := r; exact ⟨vs, ha.trans h, r.keep e⟩
  | dK ws => obtain ⟨vs, h, r⟩ := r; exact ⟨vs, ha.trans h, r.keep e⟩
  | dT ws => obtain ⟨vs, h, r⟩ := r; exact ⟨vs, ha.trans h, r.keep e⟩
  | ins c fs => obtain ⟨dx, vs, h, r⟩ := r; exact ⟨dx, vs, ha.trans h, r.keep e⟩
  | dead => exact r.elim
theorem HR.gset (h : HR K Cl β H st) {p : Addr} {vs : List V} {o : HO} (hu : H p = some (.lst vs)) (hp : p ∈ β.pr) : HR K Cl β (upd H p o) st where
  len := h.len
  inj := h.inj
  ob := fun i a ob hi ho => (h.ob i a ob hi ho).keep (Keep.gset hu hp) (upd_ne fun e => by subst e; exact (h.prot _ hp).2 i hi)
  dead := h.dead
  prot := fun q hq => by
    obtain ⟨⟨u, hu'⟩, n⟩ := h.prot q hq
    refine ⟨?_, n⟩
    by_cases e : q = p
    · subst e
      exact ⟨o, upd_same⟩
    · exact ⟨u, by rw [upd_ne e]; exact hu'⟩
/-- the guard is taken away -/
theorem RO.drop {a : Addr} {ob : Ob} (hl : β'.l = β.l) (hp : ∀ p, p ∈ β'.pr → p ∈ β.pr) (r : RO K Cl β H a ob) : RO K Cl β' H a ob := by
  cases ob with
  | lst ws => obtain ⟨vs, h, r⟩ := r; exact ⟨vs, h, r.drop' hl hp⟩
  | dK ws => obtain ⟨vs, h, r⟩ := r; exact ⟨vs, h, r.drop' hl hp⟩
  | dT ws => obtain ⟨vs, h, r⟩ := r; exact ⟨vs, h, r.drop' hl hp⟩
  | ins c fs => obtain ⟨dx, vs, h, r⟩ := r; exact ⟨dx, vs, h, r.drop' hl hp⟩
  | dead => exact r.elim
theorem HR.drop (h : HR K Cl β H st) (hl : β'.l = β.l) (hp : ∀ p, p ∈ β'.pr → p ∈ β.pr) : HR K Cl β' H st where
  len := by rw [hl]; exact h.len
  inj := by rw [hl]; exact h.inj
  ob := fun i a ob hi ho => by
    rw [hl] at hi
    exact (h.ob i a ob hi ho).drop hl hp
  dead := by rw [hl]; exact h.dead
  prot := fun q hq => by
    rw [hl]
    exact h.prot q (hp q hq)
/-- from ahead of the guard to behind it -/
theorem Ext.drop {p : Addr} (e : Ext K β H β' H') (h0 : ∀ q, q ∈ β.pr → ∃ o, H q = some o) (hp : H p = none) : Ext K β H ⟨β'.l, β'.pr.filter fun q => decide (q ≠ p)⟩ H' where
  tup := e.tup
  lst := fun q us hq n => ⟨(e.lst q us hq n).1, (e.lst q us hq n).2.1, fun z => (e.lst q us hq n).2.2 (List.mem_filter.mp z).1⟩
  frz := e.frz
  live := e.live
  prot := fun q hq u hu => ⟨List.mem_filter.mpr ⟨(e.prot q hq u hu).1, decide_eq_true (ne_of_none hu hp)⟩, (e.prot q hq u hu).2⟩
end
end Mi
/-! The mirror layer, part C: expressions. -/
namespace Mi
open PySem L2

/-! ### judgements: the hand layer's term exists, and its reading follows from the mirror -/
structure JE (X : Cx) (Cl : Nat → Addr) (E : XK) (e : Expr) (m : ME) : Prop where
  ex : ∃ t, PE X e t ∧ SE X.K Cl E t m
structure JA (X : Cx) (Cl : Nat → Addr) (E : XK) (es : List Expr) (m : MA) : Prop where
  ex : ∃ t, PA X es t ∧ SA X.K Cl E t m
structure JT (X : Cx) (Cl : Nat → Addr) (E : XK) (e : Expr) (m : MT) : Prop where
  ex : ∃ t, PT X e t ∧ ST X.K Cl E t m
structure JW (X : Cx) (Cl : Nat → Addr) (E : XK) (e : Expr) (m : MT) : Prop where
  ex : ∃ t, PW X e t ∧ ST X.K Cl E t m

section
variable {K : PySem.W.Frag} {Cl : Nat → Addr} {E : XK} {β : Bt} {H : Hp} {α α' ω ω' : Type} {R1 : Bt → Hp → α → ω → Prop} {R2 : Bt → Hp → α' → ω' → Prop}
theorem PoG.bind {Q : ω' → Hp → Prop} {Q1 : ω → Hp → Prop} {o : Out α} {f : α → Sto → Out α'} (h : PoG K Cl R2 E β H Q (o.bind f))
    (k : ∀ a st1 β1 H1 v, o = .ok a st1 → Ext K β H β1 H1 → HR K Cl β1 H1 st1 → R1 β1 H1 a v → PoG K Cl R2 E β1 H1 Q (f a st1) → Q1 v H1) : PoG K Cl R1 E β H Q1 o := by
  cases o with
  | ok a st => exact fun β1 H1 v e hr r => k a st β1 H1 v rfl e hr r (PoG.ext e h)
  | exc c fs st => exact h
  | stuck => exact h
theorem PoG.val {Q : ω' → Hp → Prop} {a : α'} {st : Sto} {v : ω'} (h : PoG K Cl R2 E β H Q (.ok a st)) (hr : HR K Cl β H st) (r : R2 β H a v) : Q v H := h β H v (Ext.refl K β H) hr r
end

/-! ### values as data -/
mutual
@[simp] def toPy : W → Option PyData
  | .non => some .none
  | .bl b => some (.bool b)
  | .int i => some (.int i)
  | .str x => some (.str x)
  | .tup xs => (toPys xs).map .tuple
  | .lst xs => (toPys xs).map .list
  | .xst xs => (toPys xs).map .list
  | .ref _ => none
@[simp] def toPys : List W → Option (List PyData)
  | [] => some []
  | w :: ws => match toPy w, toPys ws with
    | some d, some ds => some (d :: ds)
    | _, _ => none
end
/-- a list's items -/
@[simp] def asL (w : W) (st : Sto) : Option (List W) := match w with
  | .lst ws => some ws
  | .xst ws => some ws
  | .ref i => match st[i]? with
    | some (.lst ws) => some ws
    | _ => none
  | _ => none
/-- .. of one of the call's own -/
@[simp] def asLM (w : W) (st : Sto) : Option (List W) := match w with
  | .lst ws => some ws
  | .ref i => match st[i]? with
    | some (.lst ws) => some ws
    | _ => none
  | _ => none
@[simp] def toPyS (w : W) (st : Sto) : Option PyData := match w with
  | .ref i => match st[i]? with
    | some (.lst ws) => (toPys ws).map .list
    | _ => none
  | w => toPy w
@[simp] def truth (w : W) (st : Sto) : Option Bool := match w with
  | .non => some false
  | .bl b => some b
  | .int i => some (i != 0)
  | .str x => if x.length ≤ sizeLine then some ((x.length : Int) != 0) else none
  | .tup xs => some (!xs.isEmpty)
  | .lst xs => some (!xs.isEmpty)
  | .xst xs => some (!xs.isEmpty)
  | .ref i => match st[i]? with
    | some (.lst xs) => some (!xs.isEmpty)
    | some (.dK xs) => some (!xs.isEmpty)
    | _ => none
@[simp] def flatW : W → Bool
  | .non => true | .bl _ => true | .int _ => true | .str _ => true | _ => false
@[simp] def toV : W → V
  | .non => .non | .bl b => .bl b | .int i => .int i | .str x => .str x | _ => .non

section
variable {K : PySem.W.Frag} {Cl : Nat → Addr} {E : XK} {β : Bt} {H : Hp} {st : Sto}
theorem KL.sq {a : Addr} {vs : List V} (h : KL K a vs ∨ ∃ o, H a = some (.frz o (.lst vs))) : SqL K H a vs := h.elim (fun x => .inr x) fun ⟨o, x⟩ => .inl (.inr ⟨o, x⟩)
mutual
theorem toPy_dp : ∀ {w : W} {v : V} {d : PyData}, RV K β H w v → toPy w = some d → Dp K H v d
  | _, _, _, .non, h => by cases h; exact .non
  | _, _, _, .bl b, h => by cases h; exact .bl b
  | _, _, _, .int i, h => by cases h; exact .int i
  | _, _, _, .str x, h => by cases h; exact .str x
  | _, _, _, .tup (ws := ws) hs r, h => by
    simp only [toPy, Option.map_eq_some_iff] at h
    obtain ⟨ds, h1, h2⟩ := h
    subst h2
    exact .tup hs (toPys_dp r h1)
  | _, _, _, .lst hs n r, h => by
    simp only [toPy, Option.map_eq_some_iff] at h
    obtain ⟨ds, h1, h2⟩ := h
    subst h2
    exact .lst (SqL.of hs) (toPys_dp r h1)
  | _, _, _, .xst hs r, h => by
    simp only [toPy, Option.map_eq_some_iff] at h
    obtain ⟨ds, h1, h2⟩ := h
    subst h2
    exact .lst (KL.sq hs) (toPys_dp r h1)
  | _, _, _, .ref _, h => by cases h
  | _, _, _, .dead _, h => by cases h
theorem toPys_dp : ∀ {ws : List W} {vs : List V} {ds : List PyData}, RVs K β H ws vs → toPys ws = some ds → DpAll K H vs ds
  | _, _, _, .nil, h => by cases h; exact .nil
  | _, _, _, .cons (w := w) (ws := ws) r rr, h => by
    simp only [toPys] at h
    cases h1 : toPy w with
    | none => rw [h1] at h; cases h
    | some d =>
      cases h2 : toPys ws with
      | none => rw [h1, h2] at h; cases h
      | some ds =>
        rw [h1, h2] at h
        cases h
        exact .cons (toPy_dp r h1) (toPys_dp rr h2)
end
theorem asL_ok {w : W} {v : V} {ws : List W} (hr : HR K Cl β H st) (r : RV K β H w v) (h : asL w st = some ws) : ∃ p vs, v = .ref p ∧ SqL K H p vs ∧ RVs K β H ws vs := by
  cases w with
  | lst xs => cases h; cases r with | lst h1 _ h3 => exact ⟨_, _, rfl, SqL.of h1, h3⟩
  | xst xs => cases h; cases r with | xst h1 h3 => exact ⟨_, _, rfl, KL.sq h1, h3⟩
  | ref i =>
    simp only [asL] at h
    split at h
    · rename_i e
      cases h
      obtain ⟨a, rfl, _, vs, h1, h2⟩ := r.atRef hr e (by intro z; cases z)
      exact ⟨a, vs, rfl, SqL.of h1, h2⟩
    · cases h
  | _ => cases h
theorem asLM_ok {w : W} {v : V} {ws : List W} (hr : HR K Cl β H st) (r : RV K β H w v) (h : asLM w st = some ws) : ∃ p vs, v = .ref p ∧ H p = some (.lst vs) ∧ RVs K β H ws vs := by
  cases w with
  | lst xs => cases h; cases r with | lst h1 _ h3 => exact ⟨_, _, rfl, h1, h3⟩
  | ref i =>
    simp only [asLM] at h
    split at h
    · rename_i e
      cases h
      obtain ⟨a, rfl, _, vs, h1, h2⟩ := r.atRef hr e (by intro z; cases z)
      exact ⟨a, vs, rfl, h1, h2⟩
    · cases h
  | _ => cases h
theorem toPyS_dp {w : W} {v : V} {d : PyData} (hr : HR K Cl β H st) (r : RV K β H w v) (h : toPyS w st = some d) : Dp K H v d := by
  cases w with
  | ref i =>
    simp only [toPyS] at h
    split at h
    · rename_i e
      obtain ⟨a, rfl, _, vs, h1, h2⟩ := r.atRef hr e (by intro z; cases z)
      simp only [Option.map_eq_some_iff] at h
      obtain ⟨ds, h3, h4⟩ := h
      subst h4
      exact .lst (SqL.of h1) (toPys_dp h2 h3)
    · cases h
  | _ => exact toPy_dp r h
theorem RVs.emp {ws : List W} {vs : List V} (r : RVs K β H ws vs) : ws.isEmpty = vs.isEmpty := by cases r <;> rfl
theorem truth_ok {w : W} {v : V} {k : Bool} (hr : HR K Cl β H st) (r : RV K β H w v) (h : truth w st = some k) : TruV K v H k := by
  cases w with
  | non => cases h; cases r; rfl
  | bl b => cases h; cases r; rfl
  | int i => cases h; cases r; rfl
  | str x =>
    simp only [truth] at h
    split at h
    · cases h
      cases r
      exact ⟨by assumption, rfl⟩
    · cases h
  | tup xs => cases h; cases r with | tup h1 h2 => exact .inr (.inl ⟨_, h1, by rw [h2.emp]⟩)
  | lst xs => cases h; cases r with | lst h1 _ h2 => exact .inl ⟨_, SqL.of h1, by rw [h2.emp]⟩
  | xst xs => cases h; cases r with | xst h1 h2 => exact .inl ⟨_, KL.sq h1, by rw [h2.emp]⟩
  | ref i =>
    simp only [truth] at h
    split at h
    · rename_i e
      cases h
      obtain ⟨a, rfl, _, vs, h1, h2⟩ := r.atRef hr e (by intro z; cases z)
      exact .inl ⟨_, SqL.of h1, by rw [h2.emp]⟩
    · rename_i e
      cases h
      obtain ⟨a, rfl, _, vs, h1, h2⟩ := r.atRef hr e (by intro z; cases z)
      exact .inr (.inr ⟨_, h1, by cases h2 <;> rfl⟩)
    · cases h
theorem flat_v {w : W} {v : V} (r : RV K β H w v) (h : flatW w = true) : v = toV w ∧ flatV v = true := by
  cases r <;> first | exact ⟨rfl, rfl⟩ | cases h
theorem flat_vs : ∀ {ws : List W} {vs : List V}, RVs K β H ws vs → ws.all flatW = true → vs = ws.map toV ∧ vs.all flatV = true
  | _, _, .nil, _ => ⟨rfl, rfl⟩
  | _, _, .cons r rr, h => by
    simp only [List.all_cons, Bool.and_eq_true] at h
    obtain ⟨e, f⟩ := flat_v r h.1
    obtain ⟨e', f'⟩ := flat_vs rr h.2
    subst e e'
    exact ⟨rfl, by simp only [List.all_cons, Bool.and_eq_true]; exact ⟨f, f'⟩⟩
end

/-! ### names and constants -/
@[simp] def mVar (i : Nat) : ME := fun s st => match s[i]? with
  | some (some w) => .ok w st
  | _ => .stuck
@[simp] def mC (w : W) : ME := fun _ st => .ok w st
section
variable {X : Cx} {Cl : Nat → Addr} {E : XK} {pos : Pos}
theorem se_var {K : PySem.W.Frag} {i : Nat} : SE K Cl E (tVar i) (mVar i) := fun β H σ s st Q hr hs h => by
  unfold mVar at h
  split at h
  · rename_i w e
    obtain ⟨v, h1, h2⟩ := hs.2 i w e
    exact ⟨v, h1, PoG.val h hr h2⟩
  · exact h.elim
theorem je_var (i : Nat) {x : Str} (hN : X.N[i]? = some x := by rfl) (hv : Vis X.env.scope x := by first | exact Or.inl rfl | exact Or.inr (Or.inl rfl) | exact Or.inr (Or.inr rfl)) (hd : (x == ("__debug__" : Str)) = false := by decide)
    (hcd : (x == ("__classdict__" : Str)) = false := by decide) : JE X Cl E (.Name x pos) (mVar i) := ⟨_, pe_var hN hv hd hcd, se_var⟩
theorem se_c {K : PySem.W.Frag} {w : W} {v : V} (r : ∀ β H, RV K β H w v) : SE K Cl E (tC v) (mC w) := fun β H σ s st Q hr hs h => PoG.val h hr (r β H)
theorem je_int {i j} : JE X Cl E (.Constant (.int i) j pos) (mC (.int i)) := ⟨_, pe_int, se_c fun _ _ => .int i⟩
theorem je_bl {b j} : JE X Cl E (.Constant (.bool b) j pos) (mC (.bl b)) := ⟨_, pe_bl, se_c fun _ _ => .bl b⟩
theorem je_non {j} : JE X Cl E (.Constant .none j pos) (mC .non) := ⟨_, pe_non, se_c fun _ _ => .non⟩
theorem je_str {x j} : JE X Cl E (.Constant (.str x) j pos) (mC (.str x)) := ⟨_, pe_str, se_c fun _ _ => .str x⟩
/-- a constant of the module: what its name holds -/
structure GC (K : PySem.W.Frag) (mg : Str → Option Value) (x : Str) (w : W) : Prop where
  ex : ∃ u v, mg x = some u ∧ RelV v u ∧ ∀ β H, RV K β H w v
theorem je_glob {x : Str} {w : W} (g : GC X.K X.mg x w) (hg : Gl X x := by rfl) (hd : (x == ("__debug__" : Str)) = false := by decide) : JE X Cl E (.Name x pos) (mC w) := by
  obtain ⟨u, v, hm, r, hv⟩ := g.ex
  exact ⟨_, pe_glob hg hm r hd, se_c hv⟩
end

/-! ### operators -/
abbrev M2 := W → W → Sto → Out W
@[simp] def mOp (r : M2) (a b : ME) : ME := fun s st => (a s st).bind fun x st1 => (b s st1).bind fun y st2 => r x y st2
@[simp] def mUn (r : W → Sto → Out W) (a : ME) : ME := fun s st => (a s st).bind fun x st1 => r x st1
def SOp (K : PySem.W.Frag) (Cl : Nat → Addr) (E : XK) (r : R2) (m : M2) : Prop :=
  ∀ β H st x y v u Q, HR K Cl β H st → RV K β H x v → RV K β H y u → Po K Cl E β H Q (m x y st) → r v u H Q
def SUn (K : PySem.W.Frag) (Cl : Nat → Addr) (E : XK) (r : V → Hp → VK → Prop) (m : W → Sto → Out W) : Prop :=
  ∀ β H st x v Q, HR K Cl β H st → RV K β H x v → Po K Cl E β H Q (m x st) → r v H Q
section
variable {X : Cx} {Cl : Nat → Addr} {E : XK} {pos : Pos} {K : PySem.W.Frag} {ta tb : TE} {ma mb : ME} {a b : Expr}
theorem se_op {r : R2} {m : M2} (hm : SOp K Cl E r m) (ha : SE K Cl E ta ma) (hb : SE K Cl E tb mb) : SE K Cl E (tOp r ta tb) (mOp m ma mb) := fun β H σ s st Q hr hs h =>
  ha β H σ s st _ hr hs (h.bind fun x st1 β1 H1 v _ e1 hr1 rx h1 => hb β1 H1 σ s st1 _ hr1 (hs.ext e1) (h1.bind fun y st2 β2 H2 u _ e2 hr2 ry h2 => hm β2 H2 st2 x y v u Q hr2 (rx.ext e2) ry h2))
theorem se_un {r : V → Hp → VK → Prop} {m : W → Sto → Out W} (hm : SUn K Cl E r m) (ha : SE K Cl E ta ma) : SE K Cl E (tUn r ta) (mUn m ma) := fun β H σ s st Q hr hs h =>
  ha β H σ s st _ hr hs (h.bind fun x st1 β1 H1 v _ e1 hr1 rx h1 => hm β1 H1 st1 x v Q hr1 rx h1)
theorem je_op {op : Operator} {r : R2} {m : M2} (ho : OpR X (binaryOp op) r ∧ SOp X.K Cl E r m) (ha : JE X Cl E a ma) (hb : JE X Cl E b mb) : JE X Cl E (.BinOp a op b pos) (mOp m ma mb) := by
  obtain ⟨_, p1, q1⟩ := ha.ex
  obtain ⟨_, p2, q2⟩ := hb.ex
  exact ⟨_, pe_op ho.1 p1 p2, se_op ho.2 q1 q2⟩
theorem je_un {op : UnaryOp} {r : V → Hp → VK → Prop} {m : W → Sto → Out W} (ho : UnR X (unaryOp op) r ∧ SUn X.K Cl E r m) (ha : JE X Cl E a ma) : JE X Cl E (.UnaryOp op a pos) (mUn m ma) := by
  obtain ⟨_, p1, q1⟩ := ha.ex
  exact ⟨_, pe_un ho.1 p1, se_un ho.2 q1⟩
theorem je_cmp {op : CmpOp} {r : R2} {m : M2} (ho : OpR X (compareOp op) r ∧ SOp X.K Cl E r m) (ha : JE X Cl E a ma) (hb : JE X Cl E b mb) (hm : behindInMarks op b = false) : JE X Cl E (.Compare a [op] [b] pos) (mOp m ma mb) := by
  obtain ⟨_, p1, q1⟩ := ha.ex
  obtain ⟨_, p2, q2⟩ := hb.ex
  exact ⟨_, pe_cmpR ho.1 p1 p2 hm, se_op ho.2 q1 q2⟩
/-- a bool as a test -/
@[simp] def mTest (m : ME) : MT := fun s st => (m s st).bind fun x st1 => match x with
  | .bl k => .ok k st1
  | _ => .stuck
theorem st_test {t : TE} {m : ME} (h : SE K Cl E t m) : ST K Cl E (tTest t) (mTest m) := fun β H σ s st Q hr hs hp => h β H σ s st _ hr hs (hp.bind fun x st1 β1 H1 v _ e1 hr1 rx h1 => by
  cases x with
  | bl k => cases rx; exact ⟨k, rfl, PoG.val h1 hr1 rfl⟩
  | _ => exact h1.elim)
theorem jt_cmp {op : CmpOp} {r : R2} {m : M2} (ho : OpR X (compareOp op) r ∧ SOp X.K Cl E r m) (ha : JE X Cl E a ma) (hb : JE X Cl E b mb) (hm : behindInMarks op b = false) : JT X Cl E (.Compare a [op] [b] pos) (mTest (mOp m ma mb)) := by
  obtain ⟨_, p1, q1⟩ := ha.ex
  obtain ⟨_, p2, q2⟩ := hb.ex
  exact ⟨_, pt_cmpR ho.1 p1 p2 hm, st_test (se_op ho.2 q1 q2)⟩
/-- a value's truth as a test -/
@[simp] def mTru (m : ME) : MT := fun s st => (m s st).bind fun x st1 => match truth x st1 with
  | some k => .ok k st1
  | none => .stuck
theorem jt_tru (ha : JE X Cl E a ma) (he : ∀ whole, isTrue a X.env whole = (do let v ← whole; standAt a.pos; holding [v] (truthy v)) := by intro _; rfl) : JT X Cl E a (mTru ma) := by
  obtain ⟨t, p1, q1⟩ := ha.ex
  refine ⟨_, pt_truth p1 he, fun β H σ s st Q hr hs hp => q1 β H σ s st _ hr hs (hp.bind fun x st1 β1 H1 v _ e1 hr1 rx h1 => ?_)⟩
  split at h1
  · rename_i k e
    exact ⟨k, truth_ok hr1 rx e, PoG.val h1 hr1 rfl⟩
  · exact h1.elim
/-- a < b < c -/
@[simp] def mChain (r r' : M2) (a b c : ME) : ME := fun s st => (a s st).bind fun x st1 => (b s st1).bind fun y st2 => (r x y st2).bind fun z st3 => match z with
  | .bl true => (c s st3).bind fun w st4 => r' y w st4
  | .bl false => .ok (.bl false) st3
  | _ => .stuck
theorem se_chain {r r' : R2} {m m' : M2} {tc : TE} {mc : ME} (hm : SOp K Cl E r m) (hm' : SOp K Cl E r' m') (ha : SE K Cl E ta ma) (hb : SE K Cl E tb mb) (hc : SE K Cl E tc mc) : SE K Cl E (tChain r r' ta tb tc) (mChain m m' ma mb mc) := fun β H σ s st Q hr hs h =>
  ha β H σ s st _ hr hs (h.bind fun x st1 β1 H1 v _ e1 hr1 rx h1 => hb β1 H1 σ s st1 _ hr1 (hs.ext e1) (h1.bind fun y st2 β2 H2 u _ e2 hr2 ry h2 => hm β2 H2 st2 x y v u _ hr2 (rx.ext e2) ry (h2.bind fun z st3 β3 H3 zv _ e3 hr3 rz h3 => by
    cases z with
    | bl k =>
      cases rz
      refine ⟨k, rfl, ?_⟩
      cases k with
      | true => exact hc β3 H3 σ s st3 _ hr3 ((hs.ext e1).ext (e2.trans e3)) (h3.bind fun w st4 β4 H4 wv _ e4 hr4 rw h4 => hm' β4 H4 st4 y w u wv Q hr4 (ry.ext (e3.trans e4)) rw h4)
      | false => exact PoG.val h3 hr3 (.bl false)
    | _ => exact h3.elim)))
theorem je_chain {op op' : CmpOp} {r r' : R2} {m m' : M2} {c : Expr} {mc : ME} (ho : OpR X (compareOp op) r ∧ SOp X.K Cl E r m) (ho' : OpR X (compareOp op') r' ∧ SOp X.K Cl E r' m') (ha : JE X Cl E a ma) (hb : JE X Cl E b mb) (hc : JE X Cl E c mc) (hl : lastMarks [op, op'] [b, c] = false := by rfl) : JE X Cl E (.Compare a [op, op'] [b, c] pos) (mChain m m' ma mb mc) := by
  obtain ⟨_, p1, q1⟩ := ha.ex
  obtain ⟨_, p2, q2⟩ := hb.ex
  obtain ⟨_, p3, q3⟩ := hc.ex
  exact ⟨_, pe_chain ho.1 ho'.1 p1 p2 p3 (hm := hl), se_chain ho.2 ho'.2 q1 q2 q3⟩
end

/-! ### the operations by values -/
@[simp] def mAdd : M2 := fun x y st => match x, y with
  | .int i, .int j => .ok (.int (i + j)) st
  | .str a, .str b => if a.length + b.length ≤ sizeLine then .ok (.str (a ++ b)) st else .stuck
  | .tup a, .tup b => if a.length + b.length ≤ sizeLine then .ok (.tup (a ++ b)) st else .stuck
  | x, y => match asLM x st, asLM y st with
    | some a, some b => if a.length + b.length ≤ sizeLine then .ok (.lst (a ++ b)) st else .stuck
    | _, _ => .stuck
@[simp] def mSub : M2 := fun x y st => match x, y with
  | .int i, .int j => .ok (.int (i - j)) st
  | _, _ => .stuck
@[simp] def mulOk (i j : Int) : Bool := decide (i.natAbs < 2 ^ 64) || decide (j.natAbs < 2 ^ 64) || decide (i.natAbs.log2 + j.natAbs.log2 < 1000000)
@[simp] def mMul : M2 := fun x y st => match x, y with
  | .int i, .int j => if mulOk i j = true then .ok (.int (i * j)) st else .stuck
  | x, .int k => match asLM x st with
    | some a => if -(2 ^ 63) ≤ k ∧ k < 2 ^ 63 ∧ a.length * k.toNat ≤ sizeLine then .ok (.lst (List.replicate k.toNat a).flatten) st else .stuck
    | none => .stuck
  | _, _ => .stuck
@[simp] def mFdiv : M2 := fun x y st => match x, y with
  | .int i, .int j => if 0 < j ∧ j.natAbs.log2 < 9000 then .ok (.int (i / j)) st else .stuck
  | _, _ => .stuck
@[simp] def mMod : M2 := fun x y st => match x, y with
  | .int i, .int j => if 0 < j then .ok (.int (i % j)) st else .stuck
  | _, _ => .stuck
@[simp] def mPow : M2 := fun x y st => match x, y with
  | .int i, .int j => if 0 ≤ j ∧ j ≤ 1000000 ∧ i.natAbs < 2 ^ 64 then .ok (.int (i ^ j.toNat)) st else .stuck
  | _, _ => .stuck
@[simp] def mShl : M2 := fun x y st => match x, y with
  | .int i, .int j => if 0 ≤ j ∧ j ≤ 1000000 ∧ i.natAbs < 2 ^ 64 then .ok (.int (i * 2 ^ j.toNat)) st else .stuck
  | _, _ => .stuck
@[simp] def mShr : M2 := fun x y st => match x, y with
  | .int i, .int j => if 0 ≤ j then .ok (.int (i / 2 ^ j.toNat)) st else .stuck
  | _, _ => .stuck
@[simp] def mXor : M2 := fun x y st => match x, y with
  | .int i, .int j => .ok (.int (Builtin.bitXor i j)) st
  | _, _ => .stuck
@[simp] def mLt : M2 := fun x y st => match x, y with
  | .int i, .int j => .ok (.bl (decide (i < j))) st
  | _, _ => .stuck
@[simp] def mLe : M2 := fun x y st => match x, y with
  | .int i, .int j => .ok (.bl (decide (i ≤ j))) st
  | _, _ => .stuck
@[simp] def mGt : M2 := fun x y st => match x, y with
  | .int i, .int j => .ok (.bl (decide (j < i))) st
  | _, _ => .stuck
@[simp] def mGe : M2 := fun x y st => match x, y with
  | .int i, .int j => .ok (.bl (decide (j ≤ i))) st
  | _, _ => .stuck
@[simp] def mEq : M2 := fun x y st => match toPyS x st, toPyS y st with
  | some d, some e => if SeqAt.shaped d = true ∧ SeqAt.shaped e = true then .ok (.bl (PyData.eqv d e)) st else .stuck
  | _, _ => .stuck
@[simp] def mNe : M2 := fun x y st => match toPyS x st, toPyS y st with
  | some d, some e => if SeqAt.shaped d = true ∧ SeqAt.shaped e = true then .ok (.bl (!PyData.eqv d e)) st else .stuck
  | _, _ => .stuck
/-- is x in y -/
@[simp] def isIn (x y : W) (st : Sto) : Option Bool := match x, y with
  | x, .tup ws => if flatW x = true ∧ ws.all flatW = true then some (inV (toV x) (ws.map toV)) else none
  | .str a, .str b => some (!(Builtin.Str.occurrences b a 0 b.length 1).isEmpty)
  | x, y => match toPyS x st, toPyS y st with
    | some d, some (.list ds) => if SeqAt.shaped d = true ∧ SeqAt.shaped (.list ds) = true then some (ds.any fun z => PyData.eqv z d) else none
    | _, _ => none
@[simp] def mIn : M2 := fun x y st => match isIn x y st with
  | some b => .ok (.bl b) st
  | none => .stuck
@[simp] def mNotIn : M2 := fun x y st => match isIn x y st with
  | some b => .ok (.bl (!b)) st
  | none => .stuck
@[simp] def nonW (w : W) (st : Sto) : Option Bool := match w with
  | .non => some true
  | .ref i => match st[i]? with
    | some .dead => none
    | some _ => some false
    | none => none
  | _ => some false
@[simp] def mIsN : M2 := fun x y st => match y, nonW x st with
  | .non, some b => .ok (.bl b) st
  | _, _ => .stuck
@[simp] def mNotN : M2 := fun x y st => match y, nonW x st with
  | .non, some b => .ok (.bl (!b)) st
  | _, _ => .stuck
@[simp] def mIsB : M2 := fun x y st => match x, y with
  | .bl a, .bl b => .ok (.bl (decide (a = b))) st
  | _, _ => .stuck
@[simp] def mNotB : M2 := fun x y st => match x, y with
  | .bl a, .bl b => .ok (.bl (!decide (a = b))) st
  | _, _ => .stuck

theorem SOp.or1 {K : PySem.W.Frag} {Cl : Nat → Addr} {E : XK} {r r' : R2} {m : M2} (h : ∀ β H st x y v u Q, HR K Cl β H st → RV K β H x v → RV K β H y u → Po K Cl E β H Q (m x y st) → r v u H Q ∨ r' v u H Q) : SOp K Cl E (fun x y H Q => r x y H Q ∨ r' x y H Q) m := h

section
variable {X : Cx} {Cl : Nat → Addr} {E : XK}
theorem RV.new {K : PySem.W.Frag} {β : Bt} {H : Hp} {p : Addr} {ws : List W} {vs : List V} {st : Sto} (hr : HR K Cl β H st) (hp : H p = none) (r : RVs K β H ws vs) : RV K β (upd H p (.lst vs)) (.lst ws) (.ref p) :=
  .lst upd_same (hr.fresh hp) (r.ext (Ext.new hp))
theorem RV.newT {K : PySem.W.Frag} {β : Bt} {H : Hp} {p : Addr} {ws : List W} {vs : List V} (hp : H p = none) (r : RVs K β H ws vs) : RV K β (upd H p (.tup vs)) (.tup ws) (.ref p) :=
  .tup (SqT.of upd_same) (r.ext (Ext.new hp))
theorem Po.lst {K : PySem.W.Frag} {β : Bt} {H : Hp} {p : Addr} {ws : List W} {vs : List V} {st : Sto} {Q : VK} (h : Po K Cl E β H Q (.ok (.lst ws) st)) (hr : HR K Cl β H st) (hp : H p = none) (r : RVs K β H ws vs) : Q (.ref p) (upd H p (.lst vs)) :=
  h β _ _ (Ext.new hp) (hr.new hp) (RV.new hr hp r)
theorem Po.tup {K : PySem.W.Frag} {β : Bt} {H : Hp} {p : Addr} {ws : List W} {vs : List V} {st : Sto} {Q : VK} (h : Po K Cl E β H Q (.ok (.tup ws) st)) (hr : HR K Cl β H st) (hp : H p = none) (r : RVs K β H ws vs) : Q (.ref p) (upd H p (.tup vs)) :=
  h β _ _ (Ext.new hp) (hr.new hp) (RV.newT hp r)

theorem o_add : OpR X (binaryOp .Add) (fun x y H Q => rI0 (fun i j => .int (i + j)) x y H Q ∨ (∃ i j, x = .str i ∧ y = .str j ∧ i.length + j.length ≤ sizeLine ∧ Q (.str (i ++ j)) H) ∨ rCatA X.K x y H Q ∨ rCat x y H Q) ∧
    SOp X.K Cl E (fun x y H Q => rI0 (fun i j => .int (i + j)) x y H Q ∨ (∃ i j, x = .str i ∧ y = .str j ∧ i.length + j.length ≤ sizeLine ∧ Q (.str (i ++ j)) H) ∨ rCatA X.K x y H Q ∨ rCat x y H Q) mAdd := by
  refine ⟨op_add.or (op_add_str.or (op_catA.or op_cat)), fun β H st x y v u Q hr rx ry h => ?_⟩
  unfold mAdd at h
  split at h
  · cases rx; cases ry
    exact .inl ⟨_, _, rfl, rfl, PoG.val h hr (.int _)⟩
  · split at h
    · cases rx; cases ry
      exact .inr (.inl ⟨_, _, rfl, rfl, by assumption, PoG.val h hr (.str _)⟩)
    · exact h.elim
  · split at h
    · rename_i hz
      cases rx with
      | tup h1 r1 =>
        cases ry with
        | tup h2 r2 =>
          rename_i p vs q us
          refine .inr (.inr (.inl ⟨p, q, vs, us, rfl, rfl, h1, h2, by rw [← r1.length, ← r2.length]; exact hz, fun e => ?_, fun _ e => ?_, fun _ _ l hl => Po.tup h hr hl (r1.append r2)⟩))
          · subst e
            cases r1
            exact PoG.val h hr (.tup h2 r2)
          · subst e
            cases r2
            rw [List.append_nil] at h
            exact PoG.val h hr (.tup h1 r1)
    · exact h.elim
  · split at h
    · split at h
      · rename_i e1 e2 hz
        obtain ⟨p, vs, rfl, h1, r1⟩ := asLM_ok hr rx e1
        obtain ⟨q, us, rfl, h2, r2⟩ := asLM_ok hr ry e2
        exact .inr (.inr (.inr ⟨p, q, vs, us, rfl, rfl, h1, h2, by rw [← r1.length, ← r2.length]; exact hz, fun l hl => Po.lst h hr hl (r1.append r2)⟩))
      · exact h.elim
    · exact h.elim
theorem o_sub : OpR X (binaryOp .Sub) (rI0 fun i j => .int (i - j)) ∧ SOp X.K Cl E (rI0 fun i j => .int (i - j)) mSub := by
  refine ⟨op_sub, fun β H st x y v u Q hr rx ry h => ?_⟩
  unfold mSub at h
  split at h
  · cases rx; cases ry
    exact ⟨_, _, rfl, rfl, PoG.val h hr (.int _)⟩
  · exact h.elim
theorem o_mul : OpR X (binaryOp .Mult) (fun x y H Q => rI CMul (fun i j => .int (i * j)) x y H Q ∨ rI CMulW (fun i j => .int (i * j)) x y H Q ∨ rRep x y H Q) ∧
    SOp X.K Cl E (fun x y H Q => rI CMul (fun i j => .int (i * j)) x y H Q ∨ rI CMulW (fun i j => .int (i * j)) x y H Q ∨ rRep x y H Q) mMul := by
  refine ⟨op_mul.or (op_mulW.or op_rep), fun β H st x y v u Q hr rx ry h => ?_⟩
  unfold mMul at h
  split at h
  · split at h
    · rename_i hz
      cases rx; cases ry
      simp only [mulOk, Bool.or_eq_true, decide_eq_true_eq] at hz
      rcases hz with (hz | hz) | hz
      · exact .inl ⟨_, _, rfl, rfl, .inl (by omega), PoG.val h hr (.int _)⟩
      · exact .inl ⟨_, _, rfl, rfl, .inr (by omega), PoG.val h hr (.int _)⟩
      · exact .inr (.inl ⟨_, _, rfl, rfl, hz, PoG.val h hr (.int _)⟩)
    · exact h.elim
  · split at h
    · split at h
      · rename_i e1 hz
        obtain ⟨p, vs, rfl, h1, r1⟩ := asLM_ok hr rx e1
        cases ry
        exact .inr (.inr ⟨p, _, vs, rfl, rfl, h1, hz.1, hz.2.1, by rw [← r1.length]; exact hz.2.2, fun l hl => Po.lst h hr hl (r1.rep _)⟩)
      · exact h.elim
    · exact h.elim
  · exact h.elim
theorem sop_int {C : Int → Int → Prop} {g : Int → Int → V} {m : M2} {K : PySem.W.Frag} (h : ∀ x y st, (∃ i j o w, x = .int i ∧ y = .int j ∧ C i j ∧ m x y st = .ok w o ∧ o = st ∧ ∀ β H, RV K β H w (g i j)) ∨ m x y st = .stuck) : SOp K Cl E (rI C g) m := fun β H st x y v u Q hr rx ry hp => by
  rcases h x y st with ⟨i, j, o, w, rfl, rfl, hc, e, rfl, rv⟩ | e
  · rw [e] at hp
    cases rx; cases ry
    exact ⟨i, j, rfl, rfl, hc, PoG.val hp hr (rv β H)⟩
  · rw [e] at hp
    exact hp.elim
theorem sop_int0 {g : Int → Int → V} {m : M2} {K : PySem.W.Frag} (h : ∀ x y st, (∃ i j o w, x = .int i ∧ y = .int j ∧ m x y st = .ok w o ∧ o = st ∧ ∀ β H, RV K β H w (g i j)) ∨ m x y st = .stuck) : SOp K Cl E (rI0 g) m := fun β H st x y v u Q hr rx ry hp => by
  rcases h x y st with ⟨i, j, o, w, rfl, rfl, e, rfl, rv⟩ | e
  · rw [e] at hp
    cases rx; cases ry
    exact ⟨i, j, rfl, rfl, PoG.val hp hr (rv β H)⟩
  · rw [e] at hp
    exact hp.elim
theorem o_fdiv : OpR X (binaryOp .FloorDiv) (rI CDivW fun i j => .int (i / j)) ∧ SOp X.K Cl E (rI CDivW fun i j => .int (i / j)) mFdiv := by
  refine ⟨op_fdivW, sop_int fun x y st => ?_⟩
  unfold mFdiv
  split
  · split
    · exact .inl ⟨_, _, _, _, rfl, rfl, by assumption, rfl, rfl, fun _ _ => .int _⟩
    · exact .inr rfl
  · exact .inr rfl
theorem o_mod : OpR X (binaryOp .Mod) (rI (fun _ j => 0 < j) fun i j => .int (i % j)) ∧ SOp X.K Cl E (rI (fun _ j => 0 < j) fun i j => .int (i % j)) mMod := by
  refine ⟨op_mod, sop_int fun x y st => ?_⟩
  unfold mMod
  split
  · split
    · exact .inl ⟨_, _, _, _, rfl, rfl, by assumption, rfl, rfl, fun _ _ => .int _⟩
    · exact .inr rfl
  · exact .inr rfl
theorem o_pow : OpR X (binaryOp .Pow) (rI CPow fun i j => .int (i ^ j.toNat)) ∧ SOp X.K Cl E (rI CPow fun i j => .int (i ^ j.toNat)) mPow := by
  refine ⟨op_pow, sop_int fun x y st => ?_⟩
  unfold mPow
  split
  · split
    · exact .inl ⟨_, _, _, _, rfl, rfl, by assumption, rfl, rfl, fun _ _ => .int _⟩
    · exact .inr rfl
  · exact .inr rfl
theorem o_shl : OpR X (binaryOp .LShift) (rI CPow fun i j => .int (i * 2 ^ j.toNat)) ∧ SOp X.K Cl E (rI CPow fun i j => .int (i * 2 ^ j.toNat)) mShl := by
  refine ⟨op_shl, sop_int fun x y st => ?_⟩
  unfold mShl
  split
  · split
    · exact .inl ⟨_, _, _, _, rfl, rfl, by assumption, rfl, rfl, fun _ _ => .int _⟩
    · exact .inr rfl
  · exact .inr rfl
theorem o_shr : OpR X (binaryOp .RShift) (rI (fun _ j => 0 ≤ j) fun i j => .int (i / 2 ^ j.toNat)) ∧ SOp X.K Cl E (rI (fun _ j => 0 ≤ j) fun i j => .int (i / 2 ^ j.toNat)) mShr := by
  refine ⟨op_shr, sop_int fun x y st => ?_⟩
  unfold mShr
  split
  · split
    · exact .inl ⟨_, _, _, _, rfl, rfl, by assumption, rfl, rfl, fun _ _ => .int _⟩
    · exact .inr rfl
  · exact .inr rfl
theorem o_xor : OpR X (binaryOp .BitXor) (rI0 fun i j => .int (Builtin.bitXor i j)) ∧ SOp X.K Cl E (rI0 fun i j => .int (Builtin.bitXor i j)) mXor := by
  refine ⟨op_xor, sop_int0 fun x y st => ?_⟩
  unfold mXor
  split
  · exact .inl ⟨_, _, _, _, rfl, rfl, rfl, rfl, fun _ _ => .int _⟩
  · exact .inr rfl
theorem o_lt : OpR X (compareOp .Lt) (rI0 fun i j => .bl (decide (i < j))) ∧ SOp X.K Cl E (rI0 fun i j => .bl (decide (i < j))) mLt := by
  refine ⟨op_lt, sop_int0 fun x y st => ?_⟩
  unfold mLt
  split
  · exact .inl ⟨_, _, _, _, rfl, rfl, rfl, rfl, fun _ _ => .bl _⟩
  · exact .inr rfl
theorem o_le : OpR X (compareOp .LtE) (rI0 fun i j => .bl (decide (i ≤ j))) ∧ SOp X.K Cl E (rI0 fun i j => .bl (decide (i ≤ j))) mLe := by
  refine ⟨op_le, sop_int0 fun x y st => ?_⟩
  unfold mLe
  split
  · exact .inl ⟨_, _, _, _, rfl, rfl, rfl, rfl, fun _ _ => .bl _⟩
  · exact .inr rfl
theorem o_gt : OpR X (compareOp .Gt) (rI0 fun i j => .bl (decide (j < i))) ∧ SOp X.K Cl E (rI0 fun i j => .bl (decide (j < i))) mGt := by
  refine ⟨op_gt, sop_int0 fun x y st => ?_⟩
  unfold mGt
  split
  · exact .inl ⟨_, _, _, _, rfl, rfl, rfl, rfl, fun _ _ => .bl _⟩
  · exact .inr rfl
theorem o_ge : OpR X (compareOp .GtE) (rI0 fun i j => .bl (decide (j ≤ i))) ∧ SOp X.K Cl E (rI0 fun i j => .bl (decide (j ≤ i))) mGe := by
  refine ⟨op_ge, sop_int0 fun x y st => ?_⟩
  unfold mGe
  split
  · exact .inl ⟨_, _, _, _, rfl, rfl, rfl, rfl, fun _ _ => .bl _⟩
  · exact .inr rfl
theorem o_eq (hu : X.A.units + 65 < cLine) : OpR X (compareOp .Eq) (rEqD X.K) ∧ SOp X.K Cl E (rEqD X.K) mEq := by
  refine ⟨op_eqD (by omega), fun β H st x y v u Q hr rx ry h => ?_⟩
  unfold mEq at h
  split at h
  · rename_i d e h1 h2
    split at h
    · rename_i hz
      exact ⟨d, e, toPyS_dp hr rx h1, toPyS_dp hr ry h2, hz.1, hz.2, PoG.val h hr (.bl _)⟩
    · exact h.elim
  · exact h.elim
theorem o_ne (hu : X.A.units + 65 < cLine) : OpR X (compareOp .NotEq) (rNeD X.K) ∧ SOp X.K Cl E (rNeD X.K) mNe := by
  refine ⟨op_neD (by omega), fun β H st x y v u Q hr rx ry h => ?_⟩
  unfold mNe at h
  split at h
  · rename_i d e h1 h2
    split at h
    · rename_i hz
      exact ⟨d, e, toPyS_dp hr rx h1, toPyS_dp hr ry h2, hz.1, hz.2, PoG.val h hr (.bl _)⟩
    · exact h.elim
  · exact h.elim
def rInA (K : PySem.W.Frag) : R2 := fun x y H Q => rIn K false x y H Q ∨ (∃ i j, x = .str i ∧ y = .str j ∧ Q (.bl (!(Builtin.Str.occurrences j i 0 j.length 1).isEmpty)) H) ∨ rInD K x y H Q
def rNotInA (K : PySem.W.Frag) : R2 := fun x y H Q => rIn K true x y H Q ∨ (∃ i j, x = .str i ∧ y = .str j ∧ Q (.bl (!(!(Builtin.Str.occurrences j i 0 j.length 1).isEmpty))) H) ∨ rNotInD K x y H Q
theorem isIn_ok {K : PySem.W.Frag} {β : Bt} {H : Hp} {st : Sto} {x y : W} {v u : V} {b : Bool} (hr : HR K Cl β H st) (rx : RV K β H x v) (ry : RV K β H y u) (h : isIn x y st = some b) :
    (∃ p xs, u = .ref p ∧ (SqL K H p xs ∨ SqT K H p xs) ∧ flatV v = true ∧ xs.all flatV = true ∧ inV v xs = b) ∨ (∃ i j, v = .str i ∧ u = .str j ∧ (!(Builtin.Str.occurrences j i 0 j.length 1).isEmpty) = b) ∨
      (∃ d ds, Dp K H v d ∧ Dp K H u (.list ds) ∧ SeqAt.shaped d = true ∧ SeqAt.shaped (.list ds) = true ∧ (ds.any fun z => PyData.eqv z d) = b) := by
  unfold isIn at h
  split at h
  · split at h
    · rename_i hz
      cases h
      cases ry with
      | tup h1 r1 =>
        obtain ⟨e, f⟩ := flat_v rx hz.1
        obtain ⟨e', f'⟩ := flat_vs r1 hz.2
        subst e e'
        exact .inl ⟨_, _, rfl, .inr h1, f, f', rfl⟩
    · cases h
  · cases h
    cases rx; cases ry
    exact .inr (.inl ⟨_, _, rfl, rfl, rfl⟩)
  · split at h
    · rename_i h1 h2
      split at h
      · rename_i hz
        cases h
        exact .inr (.inr ⟨_, _, toPyS_dp hr rx h1, toPyS_dp hr ry h2, hz.1, hz.2, rfl⟩)
      · cases h
    · cases h
theorem o_in (hu : X.A.units + 65 < cLine) : OpR X (compareOp .In) (rInA X.K) ∧ SOp X.K Cl E (rInA X.K) mIn := by
  refine ⟨op_in_seq.or (op_in_str.or (op_inD hu)), fun β H st x y v u Q hr rx ry h => ?_⟩
  unfold mIn at h
  split at h
  · rename_i b e
    rcases isIn_ok hr rx ry e with ⟨p, xs, e1, e2, e3, e4, e5⟩ | ⟨i, j, e1, e2, e3⟩ | ⟨d, ds, e1, e2, e3, e4, e5⟩
    · exact .inl ⟨p, xs, e1, e2, e3, e4, by rw [if_neg Bool.false_ne_true, e5]; exact PoG.val h hr (.bl b)⟩
    · exact .inr (.inl ⟨i, j, e1, e2, by rw [e3]; exact PoG.val h hr (.bl b)⟩)
    · exact .inr (.inr ⟨d, ds, e1, e2, e3, e4, by rw [e5]; exact PoG.val h hr (.bl b)⟩)
  · exact h.elim
theorem o_notIn (hu : X.A.units + 65 < cLine) : OpR X (compareOp .NotIn) (rNotInA X.K) ∧ SOp X.K Cl E (rNotInA X.K) mNotIn := by
  refine ⟨op_notIn_seq.or (op_notin_str.or (op_notInD hu)), fun β H st x y v u Q hr rx ry h => ?_⟩
  unfold mNotIn at h
  split at h
  · rename_i b e
    rcases isIn_ok hr rx ry e with ⟨p, xs, e1, e2, e3, e4, e5⟩ | ⟨i, j, e1, e2, e3⟩ | ⟨d, ds, e1, e2, e3, e4, e5⟩
    · exact .inl ⟨p, xs, e1, e2, e3, e4, by rw [if_pos rfl, e5]; exact PoG.val h hr (.bl _)⟩
    · exact .inr (.inl ⟨i, j, e1, e2, by rw [e3]; exact PoG.val h hr (.bl _)⟩)
    · exact .inr (.inr ⟨d, ds, e1, e2, e3, e4, by rw [e5]; exact PoG.val h hr (.bl _)⟩)
  · exact h.elim
theorem nonW_ok {K : PySem.W.Frag} {β : Bt} {H : Hp} {st : Sto} {x : W} {v : V} {b : Bool} (hr : HR K Cl β H st) (rx : RV K β H x v) (h : nonW x st = some b) : decide (v = .non) = b := by
  cases x with
  | ref i =>
    simp only [nonW] at h
    split at h
    · cases h
    · rename_i ob hd e
      cases h
      obtain ⟨a, rfl, _⟩ := rx.atRef hr e hd
      rfl
    · cases h
  | _ => cases h; cases rx; rfl
theorem o_isN : OpR X (compareOp .Is) (fun x y H Q => y = .non ∧ Q (.bl (decide (x = .non))) H) ∧ SOp X.K Cl E (fun x y H Q => y = .non ∧ Q (.bl (decide (x = .non))) H) mIsN := by
  refine ⟨op_isN, fun β H st x y v u Q hr rx ry h => ?_⟩
  unfold mIsN at h
  split at h
  · rename_i b e
    cases ry
    exact ⟨rfl, by rw [nonW_ok hr rx e]; exact PoG.val h hr (.bl b)⟩
  · exact h.elim
theorem o_notN : OpR X (compareOp .IsNot) (fun x y H Q => y = .non ∧ Q (.bl (!decide (x = .non))) H) ∧ SOp X.K Cl E (fun x y H Q => y = .non ∧ Q (.bl (!decide (x = .non))) H) mNotN := by
  refine ⟨op_notN, fun β H st x y v u Q hr rx ry h => ?_⟩
  unfold mNotN at h
  split at h
  · rename_i b e
    cases ry
    exact ⟨rfl, by rw [nonW_ok hr rx e]; exact PoG.val h hr (.bl _)⟩
  · exact h.elim
theorem o_isB : OpR X (compareOp .Is) rIsB ∧ SOp X.K Cl E rIsB mIsB := by
  refine ⟨op_isBl, fun β H st x y v u Q hr rx ry h => ?_⟩
  unfold mIsB at h
  split at h
  · cases rx; cases ry
    exact ⟨_, _, rfl, rfl, PoG.val h hr (.bl _)⟩
  · exact h.elim
theorem o_notB : OpR X (compareOp .IsNot) rNotB ∧ SOp X.K Cl E rNotB mNotB := by
  refine ⟨op_notBl, fun β H st x y v u Q hr rx ry h => ?_⟩
  unfold mNotB at h
  split at h
  · cases rx; cases ry
    exact ⟨_, _, rfl, rfl, PoG.val h hr (.bl _)⟩
  · exact h.elim
@[simp] def mNeg : W → Sto → Out W := fun x st => match x with
  | .int i => .ok (.int (-i)) st
  | _ => .stuck
theorem u_neg : UnR X (unaryOp .USub) (rU fun i => .int (-i)) ∧ SUn X.K Cl E (rU fun i => .int (-i)) mNeg := by
  refine ⟨un_neg, fun β H st x v Q hr rx h => ?_⟩
  unfold mNeg at h
  split at h
  · cases rx
    exact ⟨_, rfl, PoG.val h hr (.int _)⟩
  · exact h.elim
end
end Mi
/-! The mirror layer, part D: truth, displays, subscripts, fields, built-in calls, dicts. -/
namespace Mi
open PySem L2

/-! ### and, or, not; a if t else b -/
@[simp] def mAndV (a b : ME) : ME := fun s st => (a s st).bind fun x st1 => match truth x st1 with
  | some true => b s st1
  | some false => .ok x st1
  | none => .stuck
@[simp] def mOrV (a b : ME) : ME := fun s st => (a s st).bind fun x st1 => match truth x st1 with
  | some true => .ok x st1
  | some false => b s st1
  | none => .stuck
@[simp] def mNotV (a : ME) : ME := fun s st => (a s st).bind fun x st1 => match truth x st1 with
  | some k => .ok (.bl (!k)) st1
  | none => .stuck
@[simp] def mTAnd (t u : MT) : MT := fun s st => (t s st).bind fun k st1 => if k = true then u s st1 else .ok false st1
@[simp] def mTOr (t u : MT) : MT := fun s st => (t s st).bind fun k st1 => if k = true then .ok true st1 else u s st1
@[simp] def mTNot (t : MT) : MT := fun s st => (t s st).bind fun k st1 => .ok (!k) st1
@[simp] def mIf (t : MT) (a b : ME) : ME := fun s st => (t s st).bind fun k st1 => if k = true then a s st1 else b s st1
section
variable {X : Cx} {Cl : Nat → Addr} {E : XK} {pos : Pos} {ma mb : ME} {ta tb : MT} {a b c : Expr} {rest : List Expr}
theorem je_one {op} (h : JE X Cl E a ma) : JE X Cl E (.BoolOp op [a] pos) ma := by
  obtain ⟨t, p, q⟩ := h.ex
  exact ⟨t, pe_one p, q⟩
theorem je_and (ha : JE X Cl E a ma) (hb : JE X Cl E (.BoolOp .And (b :: rest) pos) mb) : JE X Cl E (.BoolOp .And (a :: b :: rest) pos) (mAndV ma mb) := by
  obtain ⟨t1, p1, q1⟩ := ha.ex
  obtain ⟨t2, p2, q2⟩ := hb.ex
  refine ⟨_, pe_andT p1 p2, fun β H σ s st Q hr hs h => q1 β H σ s st _ hr hs (h.bind fun x st1 β1 H1 v _ e1 hr1 rx h1 => ?_)⟩
  split at h1
  · rename_i e
    refine ⟨true, truth_ok hr1 rx e, ?_⟩
    rw [if_pos rfl]
    exact q2 β1 H1 σ s st1 Q hr1 (hs.ext e1) h1
  · rename_i e
    refine ⟨false, truth_ok hr1 rx e, ?_⟩
    rw [if_neg Bool.false_ne_true]
    exact PoG.val h1 hr1 rx
  · exact h1.elim
theorem je_or (ha : JE X Cl E a ma) (hb : JE X Cl E (.BoolOp .Or (b :: rest) pos) mb) : JE X Cl E (.BoolOp .Or (a :: b :: rest) pos) (mOrV ma mb) := by
  obtain ⟨t1, p1, q1⟩ := ha.ex
  obtain ⟨t2, p2, q2⟩ := hb.ex
  refine ⟨_, pe_orT p1 p2, fun β H σ s st Q hr hs h => q1 β H σ s st _ hr hs (h.bind fun x st1 β1 H1 v _ e1 hr1 rx h1 => ?_)⟩
  split at h1
  · rename_i e
    refine ⟨true, truth_ok hr1 rx e, ?_⟩
    rw [if_pos rfl]
    exact PoG.val h1 hr1 rx
  · rename_i e
    refine ⟨false, truth_ok hr1 rx e, ?_⟩
    rw [if_neg Bool.false_ne_true]
    exact q2 β1 H1 σ s st1 Q hr1 (hs.ext e1) h1
  · exact h1.elim
theorem je_not (ha : JE X Cl E a ma) : JE X Cl E (.UnaryOp .Not a pos) (mNotV ma) := by
  obtain ⟨t1, p1, q1⟩ := ha.ex
  refine ⟨_, pe_notT p1, fun β H σ s st Q hr hs h => q1 β H σ s st _ hr hs (h.bind fun x st1 β1 H1 v _ e1 hr1 rx h1 => ?_)⟩
  split at h1
  · rename_i k e
    exact ⟨k, truth_ok hr1 rx e, PoG.val h1 hr1 (.bl _)⟩
  · exact h1.elim
theorem jt_w (h : JW X Cl E a ta) : JT X Cl E a ta := by
  obtain ⟨t, p, q⟩ := h.ex
  exact ⟨t, p.pt, q⟩
theorem jw_and1 (h : JT X Cl E a ta) : JW X Cl E (.BoolOp .And [a] pos) ta := by
  obtain ⟨t, p, q⟩ := h.ex
  exact ⟨t, pw_and1 p, q⟩
theorem jw_or1 (h : JT X Cl E a ta) : JW X Cl E (.BoolOp .Or [a] pos) ta := by
  obtain ⟨t, p, q⟩ := h.ex
  exact ⟨t, pw_or1 p, q⟩
theorem jw_and (ha : JT X Cl E a ta) (hb : JW X Cl E (.BoolOp .And (b :: rest) pos) tb) : JW X Cl E (.BoolOp .And (a :: b :: rest) pos) (mTAnd ta tb) := by
  obtain ⟨t1, p1, q1⟩ := ha.ex
  obtain ⟨t2, p2, q2⟩ := hb.ex
  refine ⟨_, pw_and p1 p2, fun β H σ s st Q hr hs h => q1 β H σ s st _ hr hs (h.bind fun x st1 β1 H1 v _ e1 hr1 rx h1 => ?_)⟩
  cases rx
  cases x with
  | true => rw [if_pos rfl] at h1 ⊢; exact q2 β1 H1 σ s st1 Q hr1 (hs.ext e1) h1
  | false => rw [if_neg Bool.false_ne_true] at h1 ⊢; exact PoG.val h1 hr1 rfl
theorem jw_or (ha : JT X Cl E a ta) (hb : JW X Cl E (.BoolOp .Or (b :: rest) pos) tb) : JW X Cl E (.BoolOp .Or (a :: b :: rest) pos) (mTOr ta tb) := by
  obtain ⟨t1, p1, q1⟩ := ha.ex
  obtain ⟨t2, p2, q2⟩ := hb.ex
  refine ⟨_, pw_or p1 p2, fun β H σ s st Q hr hs h => q1 β H σ s st _ hr hs (h.bind fun x st1 β1 H1 v _ e1 hr1 rx h1 => ?_)⟩
  cases rx
  cases x with
  | true => rw [if_pos rfl] at h1 ⊢; exact PoG.val h1 hr1 rfl
  | false => rw [if_neg Bool.false_ne_true] at h1 ⊢; exact q2 β1 H1 σ s st1 Q hr1 (hs.ext e1) h1
theorem jt_not (ha : JT X Cl E a ta) : JT X Cl E (.UnaryOp .Not a pos) (mTNot ta) := by
  obtain ⟨t1, p1, q1⟩ := ha.ex
  refine ⟨_, pt_not p1, fun β H σ s st Q hr hs h => q1 β H σ s st _ hr hs (h.bind fun x st1 β1 H1 v _ e1 hr1 rx h1 => ?_)⟩
  cases rx
  exact PoG.val h1 hr1 rfl
theorem je_if (hc : JT X Cl E c ta) (ha : JE X Cl E a ma) (hb : JE X Cl E b mb) : JE X Cl E (.IfExp c a b pos) (mIf ta ma mb) := by
  obtain ⟨t1, p1, q1⟩ := hc.ex
  obtain ⟨t2, p2, q2⟩ := ha.ex
  obtain ⟨t3, p3, q3⟩ := hb.ex
  refine ⟨_, pe_ifExp p1 p2 p3, fun β H σ s st Q hr hs h => q1 β H σ s st _ hr hs (h.bind fun x st1 β1 H1 v _ e1 hr1 rx h1 => ?_)⟩
  cases rx
  cases x with
  | true => rw [if_pos rfl] at h1 ⊢; exact q2 β1 H1 σ s st1 Q hr1 (hs.ext e1) h1
  | false => rw [if_neg Bool.false_ne_true] at h1 ⊢; exact q3 β1 H1 σ s st1 Q hr1 (hs.ext e1) h1
end

/-! ### argument lists, displays -/
@[simp] def mNil : MA := fun _ st => .ok [] st
@[simp] def mCons (a : ME) (r : MA) : MA := fun s st => (a s st).bind fun x st1 => (r s st1).bind fun xs st2 => .ok (x :: xs) st2
@[simp] def mTup (a : MA) : ME := fun s st => (a s st).bind fun xs st1 => if xs.length ≤ sizeLine then .ok (.tup xs) st1 else .stuck
@[simp] def mLst (a : MA) : ME := fun s st => (a s st).bind fun xs st1 => if xs.length ≤ sizeLine then .ok (.lst xs) st1 else .stuck
/-- a list that will be changed -/
@[simp] def mLstS (a : MA) : ME := fun s st => (a s st).bind fun xs st1 => if xs.length ≤ sizeLine then .ok (.ref st1.length) (st1 ++ [.lst xs]) else .stuck
section
variable {X : Cx} {Cl : Nat → Addr} {E : XK} {pos : Pos} {ma : ME} {mr : MA} {e : Expr} {es : List Expr}
theorem ja_nil : JA X Cl E [] mNil := ⟨_, pa_nil, fun β H σ s st Q hr hs h => PoG.val h hr .nil⟩
theorem ja_cons (ha : JE X Cl E e ma) (hr : JA X Cl E es mr) (hs : starEach (e :: es) X.env = (false, eval e X.env) :: starEach es X.env := by rfl) : JA X Cl E (e :: es) (mCons ma mr) := by
  obtain ⟨t1, p1, q1⟩ := ha.ex
  obtain ⟨t2, p2, q2⟩ := hr.ex
  refine ⟨_, pa_cons p1 p2 hs, fun β H σ s st Q hr hs h => q1 β H σ s st _ hr hs (h.bind fun x st1 β1 H1 v _ e1 hr1 rx h1 => q2 β1 H1 σ s st1 _ hr1 (hs.ext e1) (h1.bind fun y st2 β2 H2 u _ e2 hr2 ry h2 => ?_))⟩
  exact PoG.val h2 hr2 (.cons (rx.ext e2) ry)
theorem je_tup {k} (h : JA X Cl E es mr) : JE X Cl E (.Tuple es k pos) (mTup mr) := by
  obtain ⟨t, p, q⟩ := h.ex
  refine ⟨_, pe_tup p, fun β H σ s st Q hr hs h => q β H σ s st _ hr hs (h.bind fun x st1 β1 H1 v _ e1 hr1 rx h1 => ?_)⟩
  split at h1
  · rename_i hz
    exact ⟨by rw [← rx.length]; exact hz, fun l hl => Po.tup h1 hr1 hl rx⟩
  · exact h1.elim
theorem je_lst (h : JA X Cl E es mr) : JE X Cl E (.List es pos) (mLst mr) := by
  obtain ⟨t, p, q⟩ := h.ex
  refine ⟨_, pe_lst p, fun β H σ s st Q hr hs h => q β H σ s st _ hr hs (h.bind fun x st1 β1 H1 v _ e1 hr1 rx h1 => ?_)⟩
  split at h1
  · rename_i hz
    exact ⟨by rw [← rx.length]; exact hz, fun l hl => Po.lst h1 hr1 hl rx⟩
  · exact h1.elim
theorem Po.lstS {K : PySem.W.Frag} {β : Bt} {H : Hp} {p : Addr} {ws : List W} {vs : List V} {st : Sto} {Q : VK} (h : Po K Cl E β H Q (.ok (.ref st.length) (st ++ [.lst ws]))) (hr : HR K Cl β H st) (hp : H p = none) (r : RVs K β H ws vs) : Q (.ref p) (upd H p (.lst vs)) :=
  h _ _ _ (Ext.push hp) (hr.push hp ⟨vs, upd_same, r.ext (Ext.push hp)⟩) (.ref (by rw [← hr.len]; exact push_last))
theorem je_lstS (h : JA X Cl E es mr) : JE X Cl E (.List es pos) (mLstS mr) := by
  obtain ⟨t, p, q⟩ := h.ex
  refine ⟨_, pe_lst p, fun β H σ s st Q hr hs h => q β H σ s st _ hr hs (h.bind fun x st1 β1 H1 v _ e1 hr1 rx h1 => ?_)⟩
  split at h1
  · rename_i hz
    exact ⟨by rw [← rx.length]; exact hz, fun l hl => Po.lstS h1 hr1 hl rx⟩
  · exact h1.elim
end
/-- a value list becomes an object of the store (it is new: nobody else holds it) -/
@[simp] def mThaw (a : ME) : ME := fun s st => (a s st).bind fun x st1 => match x with
  | .lst ws => .ok (.ref st1.length) (st1 ++ [.lst ws])
  | _ => .stuck
/-- the list of an object of the store becomes a value -/
@[simp] def mFrz (a : ME) : ME := fun s st => (a s st).bind fun x st1 => match x with
  | .ref i => match st1[i]? with
    | some (.lst ws) => .ok (.lst ws) (st1.set i .dead)
    | _ => .stuck
  | _ => .stuck
section
variable {X : Cx} {Cl : Nat → Addr} {E : XK} {ma : ME} {e : Expr}
theorem je_frz (h : JE X Cl E e ma) : JE X Cl E e (mFrz ma) := by
  obtain ⟨t, p, q⟩ := h.ex
  refine ⟨_, p, fun β H σ s st Q hr hs h => q β H σ s st _ hr hs (h.bind fun x st1 β1 H1 v _ e1 hr1 rx h1 => ?_)⟩
  cases x with
  | ref i =>
    simp only at h1
    split at h1
    · rename_i ws e
      obtain ⟨a, rfl, hb, vs, hv, hrs⟩ := rx.atRef hr1 e (by intro z; cases z)
      refine h1 _ _ _ Ext.letgo (hr1.letgo hb) (.lst hv ⟨fun j hj => ?_, fun z => (hr1.prot _ z).2 i hb⟩ (hrs.ext Ext.letgo))
      rcases let_at hj with ⟨_, z⟩ | ⟨ne, z⟩
      · cases z
      · exact ne (hr1.inj j i a z hb)
    · exact h1.elim
  | _ => exact h1.elim
end

/-! ### subscripts, slices -/
theorem atI_map {α γ : Type} {xs : List α} {ys : List γ} (h : xs.length = ys.length) {i : Int} {v : α} (e : atI xs i = some v) : ∃ j : Nat, xs[j]? = some v ∧ ∀ u : γ, ys[j]? = some u → atI ys i = some u := by
  unfold atI at e ⊢
  rw [← h]
  cases hx : ixN xs.length i with
  | none => rw [hx] at e; cases e
  | some j =>
    rw [hx] at e
    exact ⟨j, e, fun u hu => hu⟩
@[simp] def mIx : M2 := fun x y st => match y with
  | .int i => match x with
    | .tup ws => match atI ws i with
      | some w => .ok w st
      | none => .stuck
    | .str z => if z.length ≤ sizeLine then match atI z.cps.toList i with
        | some c => .ok (.str ⟨#[c]⟩) st
        | none => .stuck
      else .stuck
    | x => match asL x st with
      | some ws => match atI ws i with
        | some w => .ok w st
        | none => .stuck
      | none => .stuck
  | _ => .stuck
def cutW (xs : List W) (lo hi : Option Int) : List W := (xs.drop (HT.sIx xs.length 0 lo)).take (HT.sIx xs.length xs.length hi - HT.sIx xs.length 0 lo)
abbrev MO := Slo → Sto → Out (Option Int)
@[simp] def mNoPart : MO := fun _ st => .ok none st
@[simp] def mPart (a : ME) : MO := fun s st => (a s st).bind fun x st1 => match x with
  | .int i => .ok (some i) st1
  | _ => .stuck
@[simp] def cutOf (x : W) (lo hi : Option Int) (st : Sto) : Out W := match x with
  | .tup ws => .ok (.tup (cutW ws lo hi)) st
  | .str z => if z.length ≤ sizeLine then .ok (.str (cutS z lo hi)) st else .stuck
  | x => match asL x st with
    | some ws => .ok (.lst (cutW ws lo hi)) st
    | none => .stuck
@[simp] def mSl (a : ME) (lo hi : MO) : ME := fun s st => (a s st).bind fun x st1 => (lo s st1).bind fun l st2 => (hi s st2).bind fun u st3 => cutOf x l u st3
structure JO (X : Cx) (Cl : Nat → Addr) (E : XK) (e : Option Expr) (m : MO) : Prop where
  ex : ∃ t, PO X e t ∧ ∀ β H σ s st Q, HR X.K Cl β H st → SR X.K β H s σ → PoG X.K Cl (fun _ _ (a b : Option Int) => a = b) E β H Q (m s st) → t σ H Q
section
variable {X : Cx} {Cl : Nat → Addr} {E : XK} {pos p2 : Pos} {ma mb : ME} {a b e : Expr} {ml mh : MO} {lo hi : Option Expr}
theorem je_ix (ha : JE X Cl E a ma) (hb : JE X Cl E b mb) (hs : PlainIx b := by exact fun _ _ => rfl) : JE X Cl E (.Subscript a b pos) (mOp mIx ma mb) := by
  obtain ⟨_, p1, q1⟩ := ha.ex
  obtain ⟨_, p2, q2⟩ := hb.ex
  refine ⟨_, pe_ix ix_seq p1 p2 hs, se_op (fun β H st x y v u Q hr rx ry h => ?_) q1 q2⟩
  unfold mIx at h
  split at h
  · cases ry
    split at h
    · split at h
      · rename_i w e
        cases rx with
        | tup h1 r1 =>
          obtain ⟨j, hj, k⟩ := atI_map r1.length e
          obtain ⟨v, hv, rv⟩ := r1.get hj
          exact .inr (.inl ⟨_, _, _, v, rfl, rfl, h1, k v hv, PoG.val h hr rv⟩)
      · exact h.elim
    · split at h
      · rename_i hz
        split at h
        · rename_i c e
          cases rx
          exact .inr (.inr ⟨_, _, c, rfl, rfl, hz, e, PoG.val h hr (.str _)⟩)
        · exact h.elim
      · exact h.elim
    · split at h
      · rename_i ws el
        split at h
        · rename_i w e
          obtain ⟨p, vs, rfl, h1, r1⟩ := asL_ok hr rx el
          obtain ⟨j, hj, k⟩ := atI_map r1.length e
          obtain ⟨v, hv, rv⟩ := r1.get hj
          exact .inl ⟨p, vs, _, v, rfl, rfl, h1, k v hv, PoG.val h hr rv⟩
        · exact h.elim
      · exact h.elim
  · exact h.elim
theorem jo_none : JO X Cl E none mNoPart := ⟨_, po_none, fun β H σ s st Q hr hs h => PoG.val h hr rfl⟩
theorem jo_some (h : JE X Cl E e ma) : JO X Cl E (some e) (mPart ma) := by
  obtain ⟨t, p, q⟩ := h.ex
  refine ⟨_, po_some p, fun β H σ s st Q hr hs h => q β H σ s st _ hr hs (h.bind fun x st1 β1 H1 v _ e1 hr1 rx h1 => ?_)⟩
  cases x with
  | int i => cases rx; exact ⟨i, rfl, PoG.val h1 hr1 rfl⟩
  | _ => exact h1.elim
theorem RVs.cut {K : PySem.W.Frag} {β : Bt} {H : Hp} {ws : List W} {vs : List V} (r : RVs K β H ws vs) (lo hi : Option Int) : RVs K β H (cutW ws lo hi) (cutV vs lo hi) := by
  unfold cutW cutV
  rw [r.length]
  exact (r.drop _).take _
theorem je_sl (ha : JE X Cl E a ma) (hl : JO X Cl E lo ml) (hh : JO X Cl E hi mh) : JE X Cl E (.Subscript a (.Slice lo hi none p2) pos) (mSl ma ml mh) := by
  obtain ⟨_, p1, q1⟩ := ha.ex
  obtain ⟨_, pl, ql⟩ := hl.ex
  obtain ⟨_, ph, qh⟩ := hh.ex
  refine ⟨_, pe_slice (sl_list.or (sl_tupA.or sl_str)) p1 pl ph, fun β H σ s st Q hr hs h => q1 β H σ s st _ hr hs (h.bind fun x st1 β1 H1 v _ e1 hr1 rx1 h1 => ql β1 H1 σ s st1 _ hr1 (hs.ext e1) (h1.bind fun l st2 β2 H2 l' _ e2 hr2 rl h2 =>
    qh β2 H2 σ s st2 _ hr2 ((hs.ext e1).ext e2) (h2.bind fun u st3 β3 H3 u' _ e3 hr3 ru h3 => ?_)))⟩
  cases rl
  cases ru
  have rx := rx1.ext (e2.trans e3)
  unfold cutOf at h3
  split at h3
  · cases rx with
    | @tup p ws vs h1 r1 =>
      refine .inr (.inl ⟨p, vs, rfl, h1, fun ew => ?_, fun _ l hl => Po.tup h3 hr3 hl (r1.cut _ _)⟩)
      refine PoG.val h3 hr3 (.tup h1 ?_)
      have ec : ∀ us : List W, us.length = vs.length → cutW us l u = us := fun us q => by
        unfold cutW
        rw [q, ew.1, ew.2, List.drop_zero, Nat.sub_zero, ← q, List.take_length]
      rw [ec _ r1.length]
      exact r1
  · split at h3
    · rename_i hz
      cases rx
      exact .inr (.inr ⟨_, rfl, hz, PoG.val h3 hr3 (.str _)⟩)
    · exact h3.elim
  · split at h3
    · rename_i ws el
      obtain ⟨p, vs, rfl, h1, r1⟩ := asL_ok hr3 rx el
      exact .inl ⟨p, vs, rfl, h1, fun l hl => Po.lst h3 hr3 hl (r1.cut _ _)⟩
    · exact h3.elim
end

/-! ### fields -/
@[simp] def mFld (c : Nat) (f : Str) (a : ME) : ME := fun s st => (a s st).bind fun x st1 => match x with
  | .ref i => match st1[i]? with
    | some (.ins d fs) => if d = c then match fs.lookup f with
        | some w => .ok w st1
        | none => .stuck
      else .stuck
    | _ => .stuck
  | _ => .stuck
section
variable {X : Cx} {Cl : Nat → Addr} {E : XK} {pos : Pos} {ma : ME} {e : Expr}
theorem je_fld {c : Nat} {f : Str} (hc : Cls X.K (Cl c)) (hn : NoAttr X.K (Cl c) f) (ha : JE X Cl E e ma) (hb : attributeBase e f X.env (eval e X.env) = eval e X.env := by rfl) : JE X Cl E (.Attribute e f pos) (mFld c f ma) := by
  obtain ⟨t, p, q⟩ := ha.ex
  refine ⟨_, pe_fld p hb, fun β H σ s st Q hr hs h => q β H σ s st _ hr hs (h.bind fun x st1 β1 H1 v _ e1 hr1 rx h1 => ?_)⟩
  cases x with
  | ref i =>
    simp only at h1
    split at h1
    · rename_i d fs es
      split at h1
      · rename_i ed
        subst ed
        split at h1
        · rename_i w el
          obtain ⟨a, rfl, hb, dx, gs, hv, hrs⟩ := rx.atRef hr1 es (by intro z; cases z)
          obtain ⟨v, hl, rv⟩ := hrs.look el
          exact ⟨a, _, dx, gs, v, rfl, hv, hc, hn, hl, PoG.val h1 hr1 rv⟩
        · exact h1.elim
      · exact h1.elim
    · exact h1.elim
  | _ => exact h1.elim
end

/-! ### built-in calls -/
@[simp] def mCB (r : List W → Sto → Out W) (a : MA) : ME := fun s st => (a s st).bind fun xs st1 => r xs st1
def SCal (K : PySem.W.Frag) (Cl : Nat → Addr) (E : XK) (r : List V → Hp → VK → Prop) (m : List W → Sto → Out W) : Prop :=
  ∀ β H st xs vs Q, HR K Cl β H st → RVs K β H xs vs → Po K Cl E β H Q (m xs st) → r vs H Q
section
variable {X : Cx} {Cl : Nat → Addr} {E : XK} {pos p : Pos} {mr : MA} {e : Expr} {es : List Expr}
theorem je_callB {x : Str} {id : String} {r : List V → Hp → VK → Prop} {m : List W → Sto → Out W} (hc : CallR X (.builtin id) r ∧ SCal X.K Cl E r m) (hm : X.mg x = none) (hv : bootBuiltins x = some (.builtin id)) (ha : JA X Cl E (e :: es) mr) (hg : Gl X x := by rfl) (hn : x ≠ "__name__" := by decide) (hdb : (x == ("__debug__" : Str)) = false := by decide)
    (he : starEach (e :: es) X.env = (false, eval e X.env) :: starEach es X.env := by rfl) (hpl : (backTo pos (starEach es X.env)).any (·.1) = false := by rfl) : JE X Cl E (.Call (.Name x p) (e :: es) [] pos) (mCB m mr) := by
  obtain ⟨t, pr, q⟩ := ha.ex
  exact ⟨_, pe_callB hc.1 hg hm hv pr hn hdb he hpl, fun β H σ s st Q hr hs h => q β H σ s st _ hr hs (h.bind fun x st1 β1 H1 v _ e1 hr1 rx h1 => hc.2 β1 H1 st1 x v Q hr1 rx h1)⟩
theorem je_callTy {x : Str} {T : String} {r : List V → Hp → VK → Prop} {m : List W → Sto → Out W} (hc : CallR X (.type T) r ∧ SCal X.K Cl E r m) (hm : X.mg x = none) (hv : bootBuiltins x = some (.type T)) (ha : JA X Cl E (e :: es) mr) (hg : Gl X x := by rfl) (hn : x ≠ "__name__" := by decide) (hdb : (x == ("__debug__" : Str)) = false := by decide)
    (he : starEach (e :: es) X.env = (false, eval e X.env) :: starEach es X.env := by rfl) (hpl : (backTo pos (starEach es X.env)).any (·.1) = false := by rfl) : JE X Cl E (.Call (.Name x p) (e :: es) [] pos) (mCB m mr) := by
  obtain ⟨t, pr, q⟩ := ha.ex
  exact ⟨_, pe_callTy hc.1 hg hm hv pr hn hdb he hpl, fun β H σ s st Q hr hs h => q β H σ s st _ hr hs (h.bind fun x st1 β1 H1 v _ e1 hr1 rx h1 => hc.2 β1 H1 st1 x v Q hr1 rx h1)⟩
@[simp] def mLen : List W → Sto → Out W := fun xs st => match xs with
  | [.tup ws] => .ok (.int (ws.length : Nat)) st
  | [.str z] => if z.length ≤ sizeLine then .ok (.int (z.length : Nat)) st else .stuck
  | [x] => match asL x st with
    | some ws => .ok (.int (ws.length : Nat)) st
    | none => .stuck
  | _ => .stuck
@[simp] def mAbs : List W → Sto → Out W := fun xs st => match xs with
  | [.int i] => .ok (.int (if i < 0 then -i else i)) st
  | _ => .stuck
@[simp] def mMax2 : List W → Sto → Out W := fun xs st => match xs with
  | [.int i, .int j] => .ok (.int (max i j)) st
  | _ => .stuck
@[simp] def mMin2 : List W → Sto → Out W := fun xs st => match xs with
  | [.int i, .int j] => .ok (.int (min i j)) st
  | _ => .stuck
@[simp] def mInt : List W → Sto → Out W := fun xs st => match xs with
  | [.int i] => .ok (.int i) st
  | [.bl k] => .ok (.int (if k then 1 else 0)) st
  | _ => .stuck
@[simp] def mListOf : List W → Sto → Out W := fun xs st => match xs with
  | [.tup ws] => .ok (.lst ws) st
  | [x] => match asL x st with
    | some ws => .ok (.lst ws) st
    | none => .stuck
  | _ => .stuck
@[simp] def mTupleOf : List W → Sto → Out W := fun xs st => match xs with
  | [.tup ws] => .ok (.tup ws) st
  | [x] => match asL x st with
    | some ws => .ok (.tup ws) st
    | none => .stuck
  | _ => .stuck
theorem RVs.one {K : PySem.W.Frag} {β : Bt} {H : Hp} {w : W} {vs : List V} (r : RVs K β H [w] vs) : ∃ v, vs = [v] ∧ RV K β H w v := by
  cases r with
  | cons h t => cases t; exact ⟨_, rfl, h⟩
theorem RVs.two {K : PySem.W.Frag} {β : Bt} {H : Hp} {w u : W} {vs : List V} (r : RVs K β H [w, u] vs) : ∃ v x, vs = [v, x] ∧ RV K β H w v ∧ RV K β H u x := by
  cases r with
  | cons h t =>
    obtain ⟨x, rfl, h2⟩ := RVs.one t
    exact ⟨_, _, rfl, h, h2⟩
theorem c_len : CallR X (.builtin "len") (fun xs H Q => ∃ x n, xs = [x] ∧ LenV X.K x H n ∧ Q (.int n) H) ∧ SCal X.K Cl E (fun xs H Q => ∃ x n, xs = [x] ∧ LenV X.K x H n ∧ Q (.int n) H) mLen := by
  refine ⟨call_len, fun β H st xs vs Q hr r h => ?_⟩
  unfold mLen at h
  split at h
  · obtain ⟨v, rfl, rv⟩ := r.one
    cases rv with
    | tup h1 r1 => exact ⟨_, _, rfl, .inr ⟨_, h1, r1.length⟩, PoG.val h hr (.int _)⟩
  · split at h
    · obtain ⟨v, rfl, rv⟩ := r.one
      cases rv
      exact ⟨_, _, rfl, ⟨by assumption, rfl⟩, PoG.val h hr (.int _)⟩
    · exact h.elim
  · split at h
    · rename_i ws el
      obtain ⟨v, rfl, rv⟩ := r.one
      obtain ⟨p, vs, rfl, h1, r1⟩ := asL_ok hr rv el
      exact ⟨_, _, rfl, .inl ⟨_, h1, r1.length⟩, PoG.val h hr (.int _)⟩
    · exact h.elim
  · exact h.elim
theorem c_abs : CallR X (.builtin "abs") (fun xs H Q => ∃ i, xs = [.int i] ∧ Q (.int (if i < 0 then -i else i)) H) ∧ SCal X.K Cl E (fun xs H Q => ∃ i, xs = [.int i] ∧ Q (.int (if i < 0 then -i else i)) H) mAbs := by
  refine ⟨call_abs, fun β H st xs vs Q hr r h => ?_⟩
  unfold mAbs at h
  split at h
  · obtain ⟨v, rfl, rv⟩ := r.one
    cases rv
    exact ⟨_, rfl, PoG.val h hr (.int _)⟩
  · exact h.elim
theorem c_max2 (hc : X.calm = true) : CallR X (.builtin "max") (fun xs H Q => ∃ i j, xs = [.int i, .int j] ∧ Q (.int (if j > i then j else i)) H) ∧ SCal X.K Cl E (fun xs H Q => ∃ i j, xs = [.int i, .int j] ∧ Q (.int (if j > i then j else i)) H) mMax2 := by
  refine ⟨call_max2 hc, fun β H st xs vs Q hr r h => ?_⟩
  unfold mMax2 at h
  split at h
  · rename_i i j
    obtain ⟨v, u, rfl, rv, ru⟩ := r.two
    cases rv; cases ru
    have e : (if j > i then j else i) = max i j := by split <;> omega
    exact ⟨_, _, rfl, by rw [e]; exact PoG.val h hr (.int _)⟩
  · exact h.elim
theorem c_min2 (hc : X.calm = true) : CallR X (.builtin "min") (fun xs H Q => ∃ i j, xs = [.int i, .int j] ∧ Q (.int (if j < i then j else i)) H) ∧ SCal X.K Cl E (fun xs H Q => ∃ i j, xs = [.int i, .int j] ∧ Q (.int (if j < i then j else i)) H) mMin2 := by
  refine ⟨call_min2 hc, fun β H st xs vs Q hr r h => ?_⟩
  unfold mMin2 at h
  split at h
  · rename_i i j
    obtain ⟨v, u, rfl, rv, ru⟩ := r.two
    cases rv; cases ru
    have e : (if j < i then j else i) = min i j := by split <;> omega
    exact ⟨_, _, rfl, by rw [e]; exact PoG.val h hr (.int _)⟩
  · exact h.elim
theorem c_int : CallR X (.type "int") (fun xs H Q => (∃ i, xs = [.int i] ∧ Q (.int i) H) ∨ ∃ k, xs = [.bl k] ∧ Q (.int (if k then 1 else 0)) H) ∧ SCal X.K Cl E (fun xs H Q => (∃ i, xs = [.int i] ∧ Q (.int i) H) ∨ ∃ k, xs = [.bl k] ∧ Q (.int (if k then 1 else 0)) H) mInt := by
  refine ⟨call_int1, fun β H st xs vs Q hr r h => ?_⟩
  unfold mInt at h
  split at h
  · obtain ⟨v, rfl, rv⟩ := r.one
    cases rv
    exact .inl ⟨_, rfl, PoG.val h hr (.int _)⟩
  · obtain ⟨v, rfl, rv⟩ := r.one
    cases rv
    exact .inr ⟨_, rfl, PoG.val h hr (.int _)⟩
  · exact h.elim
theorem c_list : CallR X (.type "list") (fun xs H Q => ∃ p ys, xs = [.ref p] ∧ (SqL X.K H p ys ∨ SqT X.K H p ys) ∧ ∀ l, H l = none → Q (.ref l) (upd H l (.lst ys))) ∧
    SCal X.K Cl E (fun xs H Q => ∃ p ys, xs = [.ref p] ∧ (SqL X.K H p ys ∨ SqT X.K H p ys) ∧ ∀ l, H l = none → Q (.ref l) (upd H l (.lst ys))) mListOf := by
  refine ⟨call_list_of, fun β H st xs vs Q hr r h => ?_⟩
  unfold mListOf at h
  split at h
  · obtain ⟨v, rfl, rv⟩ := r.one
    cases rv with
    | tup h1 r1 => exact ⟨_, _, rfl, .inr h1, fun l hl => Po.lst h hr hl r1⟩
  · split at h
    · rename_i ws el
      obtain ⟨v, rfl, rv⟩ := r.one
      obtain ⟨p, vs, rfl, h1, r1⟩ := asL_ok hr rv el
      exact ⟨_, _, rfl, .inl h1, fun l hl => Po.lst h hr hl r1⟩
    · exact h.elim
  · exact h.elim
theorem c_tuple : CallR X (.type "tuple") (fun xs H Q => ∃ p ys, xs = [.ref p] ∧ ((SqL X.K H p ys ∧ ∀ l, H l = none → Q (.ref l) (upd H l (.tup ys))) ∨ (SqT X.K H p ys ∧ Q (.ref p) H))) ∧
    SCal X.K Cl E (fun xs H Q => ∃ p ys, xs = [.ref p] ∧ ((SqL X.K H p ys ∧ ∀ l, H l = none → Q (.ref l) (upd H l (.tup ys))) ∨ (SqT X.K H p ys ∧ Q (.ref p) H))) mTupleOf := by
  refine ⟨call_tuple_of, fun β H st xs vs Q hr r h => ?_⟩
  unfold mTupleOf at h
  split at h
  · obtain ⟨v, rfl, rv⟩ := r.one
    cases rv with
    | tup h1 r1 => exact ⟨_, _, rfl, .inr ⟨h1, PoG.val h hr (.tup h1 r1)⟩⟩
  · split at h
    · rename_i ws el
      obtain ⟨v, rfl, rv⟩ := r.one
      obtain ⟨p, vs, rfl, h1, r1⟩ := asL_ok hr rv el
      exact ⟨_, _, rfl, .inl ⟨h1, fun l hl => Po.tup h hr hl r1⟩⟩
    · exact h.elim
  · exact h.elim

/-! ### isinstance of a built-in class -/
@[simp] def tyOf (w : W) (st : Sto) : Option String := match w with
  | .non => some "NoneType" | .bl _ => some "bool" | .int _ => some "int" | .str _ => some "str" | .tup _ => some "tuple" | .lst _ => some "list" | .xst _ => some "list"
  | .ref i => match st[i]? with
    | some (.lst _) => some "list"
    | some (.dK _) => some "dict"
    | some (.dT _) => some "dict"
    | _ => none
@[simp] def mIsi (T : String) (a : ME) : ME := fun s st => (a s st).bind fun x st1 => match tyOf x st1 with
  | some t => match kitB t T with
    | some b => .ok (.bl b) st1
    | none => .stuck
  | none => .stuck
theorem tyOf_ok {K : PySem.W.Frag} {β : Bt} {H : Hp} {st : Sto} {x : W} {v : V} {t : String} (hr : HR K Cl β H st) (rx : RV K β H x v) (h : tyOf x st = some t) : TyX K H v (.type t) := by
  cases x with
  | non => cases h; cases rx; exact .base .non
  | bl b => cases h; cases rx; exact .base (.bl _)
  | int i => cases h; cases rx; exact .base (.int _)
  | str i => cases h; cases rx; exact .base (.str _)
  | tup ws =>
    cases h
    cases rx with
    | tup h1 r1 =>
      rcases h1 with (h1 | ⟨o, h1⟩) | ⟨o, its, n, hk, hc, _⟩
      · exact .base (.tup h1)
      · exact .fTuple h1
      · exact .kTuple hk hc
  | lst ws => cases h; cases rx with | lst h1 _ r1 => exact .base (.lst h1)
  | xst ws =>
    cases h
    cases rx with
    | xst h1 r1 =>
      rcases h1 with ⟨o, its, n, hk, hc, _⟩ | ⟨o, h1⟩
      · exact .kList hk hc
      · exact .base (.frz h1)
  | ref i =>
    simp only [tyOf] at h
    split at h
    · rename_i e
      cases h
      obtain ⟨a, rfl, _, vs, h1, _⟩ := rx.atRef hr e (by intro z; cases z)
      exact .base (.lst h1)
    · rename_i e
      cases h
      obtain ⟨a, rfl, _, vs, h1, _⟩ := rx.atRef hr e (by intro z; cases z)
      exact .base (.dK h1)
    · rename_i e
      cases h
      obtain ⟨a, rfl, _, vs, h1, _⟩ := rx.atRef hr e (by intro z; cases z)
      exact .base (.dT h1)
    · cases h
theorem je_isi {ma : ME} {x : Str} {T : String} {p2 : Pos} (hm : X.mg "isinstance" = none) (hmx : X.mg x = none) (hv : bootBuiltins x = some (.type T)) (ha : JE X Cl E e ma) (hgx : Gl X x := by rfl) (hnx : x ≠ "__name__" := by decide) (hdx : (x == ("__debug__" : Str)) = false := by decide)
    (hg : Gl X "isinstance" := by rfl)
    (he : starEach [e, .Name x p2] X.env = (false, eval e X.env) :: starEach [.Name x p2] X.env := by rfl) (hpl : (backTo pos (starEach [.Name x p2] X.env)).any (·.1) = false := by rfl) : JE X Cl E (.Call (.Name "isinstance" p) [e, .Name x p2] [] pos) (mIsi T ma) := by
  obtain ⟨t, pr, q⟩ := ha.ex
  refine ⟨_, pe_callB call_isi hg hm PyProof.Rows.boot_isinstance (pa_cons (hs := he) pr (pa_cons (pe_bltn (v := .ty T) hgx hmx hv rfl hnx hdx) pa_nil)) (he := he) (hpl := hpl), fun β H σ s st Q hr hs h => q β H σ s st _ hr hs (h.bind fun y st1 β1 H1 v _ e1 hr1 rx h1 => ?_)⟩
  split at h1
  · rename_i t et
    split at h1
    · rename_i b eb
      exact ⟨v, .ty T, .type t, .type T, b, rfl, .ty T, tyOf_ok hr1 rx et, kit_ty eb, PoG.val h1 hr1 (.bl b)⟩
    · exact h1.elim
  · exact h1.elim
end

/-! ### dicts with ints and texts as keys -/
@[simp] def toKey : W → Option Key
  | .int i => some (.inl i) | .str x => some (.inr x) | _ => none
def valW {κ : Type} [DecidableEq κ] (kvs : List (κ × W)) (k : κ) : Option W := (kvs.find? fun kv => decide (kv.1 = k)).map (·.2)
def putKW {κ : Type} [DecidableEq κ] (kvs : List (κ × W)) (k : κ) (v : W) : List (κ × W) :=
  if kvs.any fun kv => decide (kv.1 = k) then kvs.map fun kv => if kv.1 = k then (kv.1, v) else kv else kvs ++ [(k, v)]
@[simp] def mDGet (d k : ME) : ME := fun s st => (d s st).bind fun x st1 => (k s st1).bind fun y st2 => match x with
  | .ref i => match st2[i]?, toKey y with
    | some (.dK kvs), some k => match valW kvs k with
      | some w => .ok w st2
      | none => .stuck
    | _, _ => .stuck
  | _ => .stuck
section
variable {X : Cx} {Cl : Nat → Addr} {E : XK} {pos p : Pos} {md mk : ME} {o i : Expr}
theorem toKey_ok {K : PySem.W.Frag} {β : Bt} {H : Hp} {w : W} {v : V} {k : Key} (r : RV K β H w v) (h : toKey w = some k) : v = kV k := by
  cases w <;> first | (cases h; cases r; rfl) | cases h
theorem RF.val {K : PySem.W.Frag} {β : Bt} {H : Hp} {κ : Type} [DecidableEq κ] {k : κ} : ∀ {kvs : List (κ × W)} {gs : List (κ × V)} {w : W}, RF K β H kvs gs → valW kvs k = some w → ∃ v, valV gs k = some v ∧ RV K β H w v
  | _, _, _, .nil, e => by cases e
  | _, _, w, .cons (k := j) (w := u) (v := v) (fs := fs) (gs := gs) h r, e => by
    unfold valW at e
    unfold valV
    rw [List.find?_cons] at e ⊢
    by_cases hk : j = k
    · rw [decide_eq_true (show (j, u).1 = k from hk)] at e
      rw [decide_eq_true (show (j, v).1 = k from hk)]
      cases e
      exact ⟨v, rfl, h⟩
    · rw [decide_eq_false (show ¬ (j, u).1 = k from hk)] at e
      rw [decide_eq_false (show ¬ (j, v).1 = k from hk)]
      exact RF.val r e
theorem RF.valN {K : PySem.W.Frag} {β : Bt} {H : Hp} {κ : Type} [DecidableEq κ] {k : κ} : ∀ {kvs : List (κ × W)} {gs : List (κ × V)}, RF K β H kvs gs → valW kvs k = none → valV gs k = none
  | _, _, .nil, e => rfl
  | _, _, .cons (k := j) (w := u) (v := v) (fs := fs) (gs := gs) h r, e => by
    unfold valW at e
    unfold valV
    rw [List.find?_cons] at e ⊢
    by_cases hk : j = k
    · rw [decide_eq_true (show (j, u).1 = k from hk)] at e
      cases e
    · rw [decide_eq_false (show ¬ (j, u).1 = k from hk)] at e
      rw [decide_eq_false (show ¬ (j, v).1 = k from hk)]
      exact RF.valN r e
theorem je_dget (hu : X.A.units + 1 < cLine) (ho : JE X Cl E o md) (hi : JE X Cl E i mk) (hs : NoSl i := by exact fun _ _ => rfl) : JE X Cl E (.Subscript o i pos) (mDGet md mk) := by
  obtain ⟨_, p1, q1⟩ := ho.ex
  obtain ⟨_, p2, q2⟩ := hi.ex
  refine ⟨_, pe_dget hu p1 p2 hs, fun β H σ s st Q hr hs h => q1 β H σ s st _ hr hs (h.bind fun x st1 β1 H1 v _ e1 hr1 rx1 h1 => q2 β1 H1 σ s st1 _ hr1 (hs.ext e1) (h1.bind fun y st2 β2 H2 u _ e2 hr2 ry h2 => ?_))⟩
  have rx := rx1.ext e2
  cases x with
  | ref j =>
    simp only at h2
    split at h2
    · rename_i kvs k es ek
      split at h2
      · rename_i w ew
        obtain ⟨a, rfl, _, gs, hg, hrs⟩ := rx.atRef hr2 es (by intro z; cases z)
        obtain ⟨v, hv, rv⟩ := hrs.val ew
        exact ⟨a, v, rfl, .inl ⟨gs, k, .inl hg, toKey_ok ry ek, hv.symm⟩, PoG.val h2 hr2 rv⟩
      · exact h2.elim
    · exact h2.elim
  | _ => exact h2.elim
end

/-! ### a written dict -/
@[simp] def mPairs : List (ME × ME) → Slo → Sto → Out (List (W × W))
  | [], _, st => .ok [] st
  | (k, v) :: r, s, st => (k s st).bind fun x st1 => (v s st1).bind fun y st2 => (mPairs r s st2).bind fun ps st3 => .ok ((x, y) :: ps) st3
@[simp] def keyed : List (W × W) → Option (List (Key × W))
  | [] => some []
  | (x, y) :: r => match toKey x, keyed r with
    | some k, some ks => some ((k, y) :: ks)
    | _, _ => none
def mergeW (kvs more : List (Key × W)) : List (Key × W) := more.foldl (fun acc kv => putKW acc kv.1 kv.2) kvs
@[simp] def mDisp (ps : List (ME × ME)) : ME := fun s st => (mPairs ps s (st ++ [.dK []])).bind fun rs st2 => match st2[st.length]?, keyed rs with
  | some (.dK []), some kvs => if kvs.length ≤ 15 then .ok (.ref st.length) (st2.set st.length (.dK (mergeW [] kvs))) else .stuck
  | _, _ => .stuck
inductive RPs (K : PySem.W.Frag) (β : Bt) (H : Hp) : List (W × W) → List (V × V) → Prop
  | nil : RPs K β H [] []
  | cons {x y : W} {a b : V} {ws : List (W × W)} {vs : List (V × V)} : RV K β H x a → RV K β H y b → RPs K β H ws vs → RPs K β H ((x, y) :: ws) ((a, b) :: vs)
inductive JPs (X : Cx) (Cl : Nat → Addr) (E : XK) (pos : Pos) : List (Option Expr) → List Expr → List (TE × TE) → List (ME × ME) → Prop
  | nil : JPs X Cl E pos [] [] [] []
  | cons {k v : Expr} {ks : List (Option Expr)} {vs : List Expr} {tk tv : TE} {mk mv : ME} {ts : List (TE × TE)} {ms : List (ME × ME)} : PE X k tk → SE X.K Cl E tk mk → PE X v tv → SE X.K Cl E tv mv → JPs X Cl E pos ks vs ts ms → JPs X Cl E pos (some k :: ks) (v :: vs) ((tk, tv) :: ts) ((mk, mv) :: ms)
structure JP (X : Cx) (Cl : Nat → Addr) (E : XK) (pos : Pos) (ks : List (Option Expr)) (vs : List Expr) (ms : List (ME × ME)) : Prop where
  ex : ∃ ts, JPs X Cl E pos ks vs ts ms
section
variable {X : Cx} {Cl : Nat → Addr} {E : XK} {pos : Pos}
theorem jp_nil : JP X Cl E pos [] [] [] := ⟨[], .nil⟩
theorem jp_cons {k v : Expr} {ks : List (Option Expr)} {vs : List Expr} {mk mv : ME} {ms : List (ME × ME)} (hk : JE X Cl E k mk) (hv : JE X Cl E v mv) (h : JP X Cl E pos ks vs ms) : JP X Cl E pos (some k :: ks) (v :: vs) ((mk, mv) :: ms) := by
  obtain ⟨_, p1, q1⟩ := hk.ex
  obtain ⟨_, p2, q2⟩ := hv.ex
  obtain ⟨ts, h⟩ := h.ex
  exact ⟨_, .cons p1 q1 p2 q2 h⟩
theorem JPs.pps {ks : List (Option Expr)} {vs : List Expr} {ts : List (TE × TE)} {ms : List (ME × ME)} (h : JPs X Cl E pos ks vs ts ms) : PPs X pos ks vs ts := by
  induction h with
  | nil => exact pps_nil
  | cons p1 _ p2 _ _ ih => exact pps_cons p1 p2 ih
theorem JPs.sim {ks : List (Option Expr)} {vs : List Expr} {ts : List (TE × TE)} {ms : List (ME × ME)} (h : JPs X Cl E pos ks vs ts ms) : ∀ β H σ s st Q, HR X.K Cl β H st → SR X.K β H s σ → PoG X.K Cl (RPs X.K) E β H Q (mPairs ms s st) → tPairs ts σ H Q := by
  induction h with
  | nil => exact fun β H σ s st Q hr hs h => PoG.val h hr .nil
  | cons p1 q1 p2 q2 _ ih =>
    exact fun β H σ s st Q hr hs h => q1 β H σ s st _ hr hs (h.bind fun x st1 β1 H1 v _ e1 hr1 rx h1 => q2 β1 H1 σ s st1 _ hr1 (hs.ext e1) (h1.bind fun y st2 β2 H2 u _ e2 hr2 ry h2 => ih β2 H2 σ s st2 _ hr2 ((hs.ext e1).ext e2) (h2.bind fun ps st3 β3 H3 us _ e3 hr3 rp h3 =>
      PoG.val h3 hr3 (.cons (rx.ext (e2.trans e3)) (ry.ext e3) rp))))
theorem RF.any {K : PySem.W.Frag} {β : Bt} {H : Hp} {κ : Type} [DecidableEq κ] {k : κ} : ∀ {kvs : List (κ × W)} {gs : List (κ × V)}, RF K β H kvs gs → (kvs.any fun kv => decide (kv.1 = k)) = (gs.any fun kv => decide (kv.1 = k))
  | _, _, .nil => rfl
  | _, _, .cons h r => by
    rw [List.any_cons, List.any_cons, RF.any r] <;> rfl
theorem RF.repl {K : PySem.W.Frag} {β : Bt} {H : Hp} {κ : Type} [DecidableEq κ] {k : κ} {y : W} {v : V} (ry : RV K β H y v) : ∀ {kvs : List (κ × W)} {gs : List (κ × V)}, RF K β H kvs gs → RF K β H (kvs.map fun kv => if kv.1 = k then (kv.1, y) else kv) (gs.map fun kv => if kv.1 = k then (kv.1, v) else kv)
  | _, _, .nil => .nil
  | _, _, .cons (k := j) h r => by
    rw [List.map_cons, List.map_cons]
    by_cases e : j = k
    · rw [if_pos (show (j, _).1 = k from e), if_pos (show (j, _).1 = k from e)]
      exact .cons ry (RF.repl ry r)
    · rw [if_neg (show ¬ (j, _).1 = k from e), if_neg (show ¬ (j, _).1 = k from e)]
      exact .cons h (RF.repl ry r)
theorem RF.append {K : PySem.W.Frag} {β : Bt} {H : Hp} {κ : Type} : ∀ {kvs more : List (κ × W)} {gs hs : List (κ × V)}, RF K β H kvs gs → RF K β H more hs → RF K β H (kvs ++ more) (gs ++ hs)
  | _, _, _, _, .nil, s => s
  | _, _, _, _, .cons h r, s => .cons h (RF.append r s)
theorem RF.put {K : PySem.W.Frag} {β : Bt} {H : Hp} {κ : Type} [DecidableEq κ] {kvs : List (κ × W)} {gs : List (κ × V)} (r : RF K β H kvs gs) (k : κ) {y : W} {v : V} (ry : RV K β H y v) : RF K β H (putKW kvs k y) (putK gs k v) := by
  unfold putKW putK
  rw [r.any (k := k)]
  split
  · exact r.repl ry
  · exact r.append (.cons ry .nil)
theorem RF.merge {K : PySem.W.Frag} {β : Bt} {H : Hp} : ∀ {more : List (Key × W)} {hs : List (Key × V)} {kvs : List (Key × W)} {gs : List (Key × V)}, RF K β H more hs → RF K β H kvs gs → RF K β H (mergeW kvs more) (mergeK gs hs)
  | _, _, _, _, .nil, r => r
  | _, _, kvs, gs, .cons (k := k) (w := w) (v := v) (fs := fs) (gs := hs) h t, r => by
    show RF K β H (mergeW (putKW kvs k w) fs) (mergeK (putK gs k v) hs)
    exact RF.merge t (r.put k h)
theorem keyed_ok {K : PySem.W.Frag} {β : Bt} {H : Hp} : ∀ {ws : List (W × W)} {vs : List (V × V)} {kvs : List (Key × W)}, RPs K β H ws vs → keyed ws = some kvs → ∃ gs : List (Key × V), vs = gs.map (fun kv => (kV kv.1, kv.2)) ∧ RF K β H kvs gs
  | _, _, _, .nil, h => by cases h; exact ⟨[], rfl, .nil⟩
  | _, _, _, .cons (x := x) (ws := ws) (b := b) rx ry r, h => by
    unfold keyed at h
    split at h
    · rename_i k ks e1 e2
      cases h
      obtain ⟨gs, e, rf⟩ := keyed_ok r e2
      have ek := toKey_ok rx e1
      subst e ek
      exact ⟨(k, b) :: gs, rfl, .cons ry rf⟩
    · cases h
theorem je_disp {ks : List (Option Expr)} {vs : List Expr} {ms : List (ME × ME)} (h : JP X Cl E pos ks vs ms) (hall : ks.all (·.isSome) = true := by rfl) (hl : ks.length = vs.length := by rfl) (h0 : ks ≠ [] := by exact List.cons_ne_nil _ _) (h15 : ks.length ≤ 15 := by decide) : JE X Cl E (.Dict ks vs pos) (mDisp ms) := by
  obtain ⟨ts, h⟩ := h.ex
  refine ⟨_, pe_disp h.pps hall hl h0 h15, fun β H σ s st Q hr hs hp p hn => ?_⟩
  have ep : Ext X.K β H (β.push p) (upd H p (.dK [])) := Ext.push hn
  have hr' : HR X.K Cl (β.push p) (upd H p (.dK [])) (st ++ [.dK []]) := hr.push hn ⟨[], upd_same, .nil⟩
  refine h.sim _ _ σ s _ _ hr' (hs.ext ep) ((PoG.ext ep hp).bind fun rs st2 β2 H2 us _ e2 hr2 rp h2 => ?_)
  split at h2
  · rename_i kvs e1 e3
    split at h2
    · rename_i hz
      have hb : (β.push p).l[st.length]? = some (some p) := by rw [← hr.len]; exact push_last
      obtain ⟨a, hb2, gs0, hg, r0⟩ := hr2.at e1 (by intro z; cases z)
      cases r0
      have ha : a = p := by
        rcases e2.live _ _ hb with q | q
        · rw [hb2] at q
          exact Option.some.inj (Option.some.inj q)
        · rw [hb2] at q
          cases q
      subst ha
      obtain ⟨gs, eg, rf⟩ := keyed_ok rp e3
      have hlen : gs.length ≤ 15 := by rw [← rf.length]; exact hz
      have em : Ext X.K β2 H2 β2 (upd H2 a (.dK (mergeK [] gs))) := Ext.mut hr2 hb2 hg trivial
      exact ⟨hg, gs, eg, hlen, h2 β2 _ _ em (hr2.mut hb2 hg trivial ⟨_, upd_same, (rf.merge .nil).ext em⟩) (.ref hb2)⟩
    · exact h2.elim
  · exact h2.elim
end
end Mi
/-! The mirror layer, part E: statements, loops, comprehensions. -/
namespace Mi
open PySem L2

structure JS (X : Cx) (Cl : Nat → Addr) (E : XK) (x : Stmt) (m : MS) : Prop where
  ex : ∃ t, PS X x t ∧ SS X.K Cl E t m
structure JSs (X : Cx) (Cl : Nat → Addr) (E : XK) (x : List Stmt) (m : MS) : Prop where
  ex : ∃ t, PSs X x t ∧ SS X.K Cl E t m

@[simp] def SO.then : SO → MS → SO
  | .nx s st, k => k s st
  | .rt w st, _ => .rt w st
  | .bk s st, _ => .bk s st
  | .ct s st, _ => .ct s st
  | .exc c fs st, _ => .exc c fs st
  | .stuck, _ => .stuck
/-- an evaluation's outcome, then a statement's -/
@[simp] def Out.run {α : Type} : Out α → (α → Sto → SO) → SO
  | .ok a st, k => k a st
  | .exc c fs st, _ => .exc c fs st
  | .stuck, _ => .stuck
@[simp] def mSkip : MS := fun s st => .nx s st
@[simp] def mSeq (a b : MS) : MS := fun s st => (a s st).then b
@[simp] def mBrk : MS := fun s st => .bk s st
@[simp] def mCont : MS := fun s st => .ct s st
@[simp] def mDrop (e : ME) : MS := fun s st => (e s st).run fun _ st1 => .nx s st1
@[simp] def mRet (e : ME) : MS := fun s st => (e s st).run fun w st1 => .rt w st1
@[simp] def mRetN : MS := fun _ st => .rt .non st
@[simp] def mIfS (t : MT) (a b : MS) : MS := fun s st => (t s st).run fun k st1 => if k = true then a s st1 else b s st1
abbrev MG := W → Slo → Sto → Option (Slo × Sto)
abbrev MGs := List W → Slo → Sto → Option (Slo × Sto)
@[simp] def mGN (i : Nat) : MG := fun w s st => some (s.set i (some w), st)
@[simp] def mGNil : MGs := fun ws s st => match ws with
  | [] => some (s, st)
  | _ => none
@[simp] def mGCons (g : MG) (r : MGs) : MGs := fun ws s st => match ws with
  | w :: ws => match g w s st with
    | some (s1, st1) => r ws s1 st1
    | none => none
  | [] => none
@[simp] def mGTup (n : Nat) (g : MGs) : MG := fun w s st => match w with
  | .tup ws => if ws.length = n then g ws s st else none
  | _ => none
@[simp] def mGSub (o i : ME) : MG := fun w s st => match o s st with
  | .ok x st1 => match i s st1 with
    | .ok y st2 => match x, y with
      | .ref r, .int k => match st2[r]? with
        | some (.lst ws) => match ixN ws.length k with
          | some j => some (s, st2.set r (.lst (ws.set j w)))
          | none => none
        | _ => none
      | _, _ => none
    | _ => none
  | _ => none
@[simp] def mGFld (c : Nat) (f : Str) (o : ME) : MG := fun w s st => match o s st with
  | .ok x st1 => match x with
    | .ref r => match st1[r]? with
      | some (.ins d fs) => if d = c ∧ fs.length < 1000 then some (s, st1.set r (.ins c (putW f w fs))) else none
      | _ => none
    | _ => none
  | _ => none
@[simp] def mAsg (e : ME) (g : MG) : MS := fun s st => (e s st).run fun w st1 => match g w s st1 with
  | some (s1, st2) => .nx s1 st2
  | none => .stuck
@[simp] def mSetF (c : Nat) (f : Str) (o e : ME) : MS := fun s st => (e s st).run fun w st1 => (o s st1).run fun x st2 => match x with
  | .ref r => match st2[r]? with
    | some (.ins d fs) => if d = c ∧ fs.length < 1000 then .nx s (st2.set r (.ins c (putW f w fs))) else .stuck
    | _ => .stuck
  | _ => .stuck
@[simp] def mDPut (d k e : ME) : MS := fun s st => (e s st).run fun w st1 => (d s st1).run fun x st2 => (k s st2).run fun y st3 => match x with
  | .ref r => match st3[r]?, toKey y with
    | some (.dK kvs), some k => if kvs.length < sizeLine then .nx s (st3.set r (.dK (putKW kvs k w))) else .stuck
    | _, _ => .stuck
  | _ => .stuck
/-- name op= e -/
@[simp] def mAug (i : Nat) (e : ME) (f : Int → Int → Int) : MS := fun s st => match s[i]? with
  | some (some (.int a)) => (e s st).run fun y st1 => match y with
    | .int b => .nx (s.set i (some (.int (f a b)))) st1
    | _ => .stuck
  | _ => .stuck
@[simp] def mPar (i j : Nat) (a : MA) : MS := fun s st => (a s st).run fun ws st1 => match ws with
  | [v, w] => .nx ((s.set i (some v)).set j (some w)) st1
  | _ => .stuck

section
variable {K : PySem.W.Frag} {Cl : Nat → Addr} {E : XK} {β : Bt} {H : Hp} {α ω : Type} {R1 : Bt → Hp → α → ω → Prop} {D : Ends}
theorem PoS.run {Q1 : ω → Hp → Prop} {o : Out α} {f : α → Sto → SO} (h : PoS K Cl E D β H (o.run f))
    (k : ∀ a st1 β1 H1 v, o = .ok a st1 → Ext K β H β1 H1 → HR K Cl β1 H1 st1 → R1 β1 H1 a v → PoS K Cl E D β1 H1 (f a st1) → Q1 v H1) : PoG K Cl R1 E β H Q1 o := by
  cases o with
  | ok a st => exact fun β1 H1 v e hr r => k a st β1 H1 v rfl e hr r (PoS.ext e h)
  | exc c fs st => exact h
  | stuck => exact h
theorem PoS.val {s : Slo} {st : Sto} {σ : L2.St} (h : PoS K Cl E D β H (.nx s st)) (hr : HR K Cl β H st) (hs : SR K β H s σ) : D.nx σ H := h β H σ (Ext.refl K β H) hr hs
/-- a target's end -/
def PoT (K : PySem.W.Frag) (Cl : Nat → Addr) (Q : L2.St → Hp → Prop) (β : Bt) (H : Hp) : Option (Slo × Sto) → Prop
  | some (s, st) => ∀ β' H' σ', Ext K β H β' H' → HR K Cl β' H' st → SR K β' H' s σ' → Q σ' H'
  | none => False
theorem PoT.ext {Q : L2.St → Hp → Prop} {β' : Bt} {H' : Hp} {o : Option (Slo × Sto)} (e : Ext K β H β' H') (h : PoT K Cl Q β H o) : PoT K Cl Q β' H' o := by
  cases o with
  | some p => exact fun β2 H2 σ2 e2 hr hs => h β2 H2 σ2 (e.trans e2) hr hs
  | none => exact h
def SG (K : PySem.W.Frag) (Cl : Nat → Addr) (g : TG) (m : MG) : Prop := ∀ β H σ s st w v Q, HR K Cl β H st → SR K β H s σ → RV K β H w v → PoT K Cl Q β H (m w s st) → g v σ H Q
def SGs (K : PySem.W.Frag) (Cl : Nat → Addr) (g : TGs) (m : MGs) : Prop := ∀ β H σ s st ws vs Q, HR K Cl β H st → SR K β H s σ → RVs K β H ws vs → PoT K Cl Q β H (m ws s st) → g vs σ H Q
theorem ss_seq {t u : TS} {a b : MS} (ha : SS K Cl E t a) (hb : SS K Cl E u b) : SS K Cl E (tSeq t u) (mSeq a b) := fun β H σ s st D hr hs h => by
  refine ha β H σ s st _ hr hs ?_
  unfold mSeq at h
  cases e : a s st with
  | nx s1 st1 => rw [e] at h; exact fun β1 H1 σ1 e1 hr1 hs1 => hb β1 H1 σ1 s1 st1 D hr1 hs1 (PoS.ext e1 h)
  | rt w st1 => rw [e] at h; exact h
  | bk s1 st1 => rw [e] at h; exact h
  | ct s1 st1 => rw [e] at h; exact h
  | exc c fs st1 => rw [e] at h; exact h
  | stuck => rw [e] at h; exact h
end

section
variable {X : Cx} {Cl : Nat → Addr} {E : XK} {pos : Pos} {ma mb md mk : ME} {ta : MT} {m1 m2 : MS} {a b c e o : Expr} {st : Stmt} {rest as bs : List Stmt}
theorem jss_nil : JSs X Cl E [] mSkip := ⟨_, pss_nil, fun β H σ s st D hr hs h => PoS.val h hr hs⟩
theorem jss_cons (h1 : JS X Cl E st m1) (h2 : JSs X Cl E rest m2) : JSs X Cl E (st :: rest) (mSeq m1 m2) := by
  obtain ⟨_, p1, q1⟩ := h1.ex
  obtain ⟨_, p2, q2⟩ := h2.ex
  exact ⟨_, pss_cons p1 p2, ss_seq q1 q2⟩
theorem jss_one (h1 : JS X Cl E st m1) : JSs X Cl E [st] m1 := by
  obtain ⟨_, p1, q1⟩ := h1.ex
  exact ⟨_, pss_one p1, q1⟩
theorem js_pass : JS X Cl E (.Pass pos) mSkip := ⟨_, ps_pass, fun β H σ s st D hr hs h => PoS.val h hr hs⟩
theorem js_doc {x j pos'} : JS X Cl E (.Expr (.Constant (.str x) j pos) pos') mSkip := ⟨_, ps_doc, fun β H σ s st D hr hs h => PoS.val h hr hs⟩
theorem js_brk : JS X Cl E (.Break pos) mBrk := ⟨_, ps_break, fun β H σ s st D hr hs h => h β H σ (Ext.refl _ β H) hr hs⟩
theorem js_cont : JS X Cl E (.Continue pos) mCont := ⟨_, ps_continue, fun β H σ s st D hr hs h => h β H σ (Ext.refl _ β H) hr hs⟩
theorem js_expr (h : JE X Cl E e ma) (hs : swapsWith e none pos.line X.env = pure false := by rfl) : JS X Cl E (.Expr e pos) (mDrop ma) := by
  obtain ⟨_, p, q⟩ := h.ex
  exact ⟨_, ps_expr p hs, fun β H σ s st D hr hs h => q β H σ s st _ hr hs (h.run fun x st1 β1 H1 v _ e1 hr1 rx h1 => PoS.val h1 hr1 (hs.ext e1))⟩
theorem js_ret (h : JE X Cl E e ma) : JS X Cl E (.Return (some e) pos) (mRet ma) := by
  obtain ⟨_, p, q⟩ := h.ex
  exact ⟨_, ps_ret p, fun β H σ s st D hr hs h => q β H σ s st _ hr hs (h.run fun x st1 β1 H1 v _ e1 hr1 rx h1 => h1 β1 H1 v (Ext.refl _ β1 H1) hr1 rx)⟩
theorem js_retN : JS X Cl E (.Return none pos) mRetN := ⟨_, ps_retN, fun β H σ s st D hr hs h => h β H .non (Ext.refl _ β H) hr .non⟩
theorem js_if (hc : JT X Cl E c ta) (h1 : JSs X Cl E as m1) (h2 : JSs X Cl E bs m2) : JS X Cl E (.If c as bs pos) (mIfS ta m1 m2) := by
  obtain ⟨_, p, q⟩ := hc.ex
  obtain ⟨_, p1, q1⟩ := h1.ex
  obtain ⟨_, p2, q2⟩ := h2.ex
  refine ⟨_, ps_if p p1 p2, fun β H σ s st D hr hs h => q β H σ s st _ hr hs (h.run fun x st1 β1 H1 v _ e1 hr1 rx h1 => ?_)⟩
  cases rx
  cases x with
  | true => rw [if_pos rfl] at h1 ⊢; exact q1 β1 H1 σ s st1 D hr1 (hs.ext e1) h1
  | false => rw [if_neg Bool.false_ne_true] at h1 ⊢; exact q2 β1 H1 σ s st1 D hr1 (hs.ext e1) h1

/-! ### targets -/
structure JG (X : Cx) (Cl : Nat → Addr) (tg : Expr) (m : MG) : Prop where
  ex : ∃ g, PG X tg g ∧ SG X.K Cl g m
structure JGs (X : Cx) (Cl : Nat → Addr) (tgs : List Expr) (m : MGs) : Prop where
  ex : ∃ g, PGs X tgs g ∧ SGs X.K Cl g m
theorem jg_name (i : Nat) {x : Str} (hN : X.N.Nodup) (hi : X.N[i]? = some x := by rfl) (hx : Loc X.env.scope x := by first | exact .inl rfl | exact .inr rfl) (hf : X.fn x = true ∨ X.env.scope.names.lookup x = some .local := by first | exact .inl rfl | exact .inr rfl) : JG X Cl (.Name x pos) (mGN i) :=
  ⟨_, pg_name hN hi hx hf, fun β H σ s st w v Q hr hs rw h => h β H _ (Ext.refl _ β H) hr (hs.set rw)⟩
theorem jgs_nil : JGs X Cl [] mGNil := by
  refine ⟨_, pgs_nil, fun β H σ s st ws vs Q hr hs rw h => ?_⟩
  unfold mGNil at h
  split at h
  · cases rw
    exact ⟨rfl, h β H _ (Ext.refl _ β H) hr hs⟩
  · exact h.elim
theorem jgs_cons {g : MG} {r : MGs} {t : Expr} {ts : List Expr} (h1 : JG X Cl t g) (h2 : JGs X Cl ts r) (hs : (assignEach (t :: ts) X.env).map (·.2) = assign t X.env :: (assignEach ts X.env).map (·.2) := by rfl) : JGs X Cl (t :: ts) (mGCons g r) := by
  obtain ⟨_, p1, q1⟩ := h1.ex
  obtain ⟨_, p2, q2⟩ := h2.ex
  refine ⟨_, pgs_cons p1 p2 hs, fun β H σ s st ws vs Q hr hs rw h => ?_⟩
  unfold mGCons at h
  split at h
  · rename_i w ws
    cases rw with
    | cons r1 r2 =>
      refine ⟨_, _, rfl, q1 β H σ s st _ _ _ hr hs r1 ?_⟩
      cases e : g w s st with
      | none => rw [e] at h; exact h.elim
      | some p =>
        obtain ⟨s1, st1⟩ := p
        rw [e] at h
        exact fun β1 H1 σ1 e1 hr1 hs1 => q2 β1 H1 σ1 s1 st1 _ _ Q hr1 hs1 (r2.ext e1) (PoT.ext e1 h)
  · exact h.elim
theorem jg_tup {r : MGs} {ts : List Expr} {k : Nat} {n : Nat} (hc : X.calm = true) (h : JGs X Cl ts r) (hn : (assignEach ts X.env).length = n := by rfl) (hst : (assignEach ts X.env).findIdx? (·.1) = none := by rfl) : JG X Cl (.Tuple ts k pos) (mGTup n r) := by
  obtain ⟨_, p, q⟩ := h.ex
  refine ⟨_, pg_tup hc p hn hst, fun β H σ s st w v Q hr hs rw h => ?_⟩
  unfold mGTup at h
  split at h
  · split at h
    · rename_i hl
      cases rw with
      | tup h1 r1 => exact ⟨_, _, rfl, h1, by rw [← r1.length]; exact hl, q β H σ s st _ _ Q hr hs r1 h⟩
    · exact h.elim
  · exact h.elim
theorem jg_sub {i : Expr} (ho : JE X Cl E o ma) (hi : JE X Cl E i mb)
    (ha : ∀ v, assign (.Subscript o i pos) X.env v = (do
      let ov ← holding [v] (eval o X.env)
      let iv ← holding [v, ov] (eval i X.env)
      standAt pos
      holding [v, ov, iv] (setItem ov iv v)
      release [v, ov, iv] []) := by intro _; rfl) : JG X Cl (.Subscript o i pos) (mGSub ma mb) := by
  obtain ⟨_, p1, q1⟩ := ho.ex
  obtain ⟨_, p2, q2⟩ := hi.ex
  refine ⟨_, pg_sub p1 p2 set_list ha, fun β H σ s st w v Q hr hs rw h => q1 β H σ s st _ hr hs ?_⟩
  unfold mGSub at h
  cases e1 : ma s st with
  | exc c fs x => rw [e1] at h; exact h.elim
  | stuck => rw [e1] at h; exact h.elim
  | ok x st1 =>
    rw [e1] at h
    intro β1 H1 v1 x1 hr1 rx
    refine q2 β1 H1 σ s st1 _ hr1 (hs.ext x1) ?_
    simp only at h
    cases e2 : mb s st1 with
    | exc c fs x => rw [e2] at h; exact h.elim
    | stuck => rw [e2] at h; exact h.elim
    | ok y st2 =>
      rw [e2] at h
      intro β2 H2 v2 x2 hr2 ry
      simp only at h
      split at h
      · rename_i r k
        split at h
        · rename_i ws es
          split at h
          · rename_i j ej
            have rx2 := rx.ext x2
            obtain ⟨a, rfl, hb, vs, hv, hrs⟩ := rx2.atRef hr2 es (by intro z; cases z)
            cases ry
            have em : Ext X.K β2 H2 β2 (upd H2 a (.lst (vs.set j v))) := Ext.mut hr2 hb hv trivial
            refine ⟨a, vs, k, j, rfl, rfl, hv, by rw [← hrs.length]; exact ej, ?_⟩
            have hrw := hrs.set ((rw.ext x1).ext x2) j
            exact h β2 _ σ ((x1.trans x2).trans em) (hr2.mut hb hv trivial ⟨_, upd_same, hrw.ext em⟩) (((hs.ext x1).ext x2).ext em)
          · exact h.elim
        · exact h.elim
      · exact h.elim
theorem js_asg {tg : Expr} {g : MG} (he : JE X Cl E e ma) (hg : JG X Cl tg g) (hs : swapsWithSole [tg] e pos.line X.env = pure false := by rfl) (hw : swappedStores [tg] e X.env = pure none := by rfl)
    (h1 : (assignEach [tg] X.env).map (·.2) = [assign tg X.env] := by rfl) : JS X Cl E (.Assign [tg] e pos) (mAsg ma g) := by
  obtain ⟨_, p1, q1⟩ := he.ex
  obtain ⟨_, p2, q2⟩ := hg.ex
  refine ⟨_, ps_asg p1 p2 hs hw h1, fun β H σ s st D hr hs h => q1 β H σ s st _ hr hs (h.run fun x st1 β1 H1 v _ e1 hr1 rx h1 => q2 β1 H1 σ s st1 x v _ hr1 (hs.ext e1) rx ?_)⟩
  split at h1
  · rename_i s1 st2 eg
    rw [eg]
    exact h1
  · exact h1.elim
theorem js_set (i : Nat) {x : Str} {pos' : Pos} (hN : X.N.Nodup) (he : JE X Cl E e ma) (hi : X.N[i]? = some x := by rfl) (hx : Loc X.env.scope x := by first | exact .inl rfl | exact .inr rfl) (hs : swapsWith e (some (.Name x pos')) pos.line X.env = pure false := by rfl) (hf : X.fn x = true ∨ X.env.scope.names.lookup x = some .local := by first | exact .inl rfl | exact .inr rfl) :
    JS X Cl E (.Assign [.Name x pos'] e pos) (mAsg ma (mGN i)) := by
  obtain ⟨_, p1, q1⟩ := he.ex
  exact ⟨_, ps_set hN hi hx p1 hs hf, fun β H σ s st D hr hs h => q1 β H σ s st _ hr hs (h.run fun x st1 β1 H1 v _ e1 hr1 rx h1 => PoS.val h1 hr1 ((hs.ext e1).set rx))⟩
theorem js_par (i j : Nat) {x y : Str} {px py pt pt2 : Pos} {kt k2 : Nat} {mp : MA} (hN : X.N.Nodup) (hc : X.calm = true) (ha : JA X Cl E [a, b] mp) (hij : i ≠ j := by decide) (hi : X.N[i]? = some x := by rfl) (hj : X.N[j]? = some y := by rfl)
    (hx : X.env.scope.names.lookup x = some .local := by rfl) (hy : X.env.scope.names.lookup y = some .local := by rfl)
    (hw : swappedStores [.Tuple [.Name x px, .Name y py] kt pt] (.Tuple [a, b] k2 pt2) X.env = pure (some [x, y]) := by rfl)
    (hs : swapsWithSole [.Tuple [.Name x px, .Name y py] kt pt] (.Tuple [a, b] k2 pt2) pos.line X.env = pure false := by rfl) :
    JS X Cl E (.Assign [.Tuple [.Name x px, .Name y py] kt pt] (.Tuple [a, b] k2 pt2) pos) (mPar i j mp) := by
  obtain ⟨_, p1, q1⟩ := ha.ex
  refine ⟨_, ps_par hc hN hi hj hij hx hy p1 hw hs, fun β H σ s st D hr hs h => q1 β H σ s st _ hr hs (h.run fun x st1 β1 H1 v _ e1 hr1 rx h1 => ?_)⟩
  split at h1
  · obtain ⟨v1, v2, rfl, r1, r2⟩ := RVs.two rx
    exact ⟨v1, v2, rfl, PoS.val h1 hr1 (((hs.ext e1).set r1).set r2)⟩
  · exact h1.elim
theorem putW_ok {K : PySem.W.Frag} {β : Bt} {H : Hp} {f : Str} {w : W} {v : V} (r : RV K β H w v) : ∀ {fs : Fl} {gs : List (Str × V)}, RF K β H fs gs → RF K β H (putW f w fs) (putF f v gs)
  | _, _, .nil => .cons r .nil
  | _, _, .cons (k := g) h t => by
    show RF K β H (if g = f then _ else _) (if g = f then _ else _)
    by_cases e : g = f
    · rw [if_pos e, if_pos e]
      subst e
      exact .cons r t
    · rw [if_neg e, if_neg e]
      exact .cons h (putW_ok r t)
theorem js_fld {c : Nat} {f : Str} {pos' : Pos} (hc : Cls X.K (Cl c)) (hn : NoAttr X.K (Cl c) f) (ho : JE X Cl E o mb) (he : JE X Cl E e ma) (hs : swapsWith e (some (.Attribute o f pos')) pos.line X.env = pure false := by rfl) :
    JS X Cl E (.Assign [.Attribute o f pos'] e pos) (mSetF c f mb ma) := by
  obtain ⟨_, p1, q1⟩ := he.ex
  obtain ⟨_, p2, q2⟩ := ho.ex
  refine ⟨_, ps_fld p2 p1 hs, fun β H σ s st D hr hs h => q1 β H σ s st _ hr hs (h.run fun x st1 β1 H1 v _ e1 hr1 rx h1 => q2 β1 H1 σ s st1 _ hr1 (hs.ext e1) (h1.run fun y st2 β2 H2 u _ e2 hr2 ry h2 => ?_))⟩
  cases y with
  | ref r =>
    simp only at h2
    split at h2
    · rename_i d fs es
      split at h2
      · rename_i hd
        obtain ⟨rfl, hl⟩ := hd
        obtain ⟨a, rfl, hb, dx, gs, hv, hrs⟩ := ry.atRef hr2 es (by intro z; cases z)
        have em : Ext X.K β2 H2 β2 (upd H2 a (.ins (Cl d) dx (putF f v gs))) := Ext.mut hr2 hb hv trivial
        exact ⟨a, _, dx, gs, rfl, hv, hc, hn, by rw [← hrs.length]; exact hl, h2 β2 _ σ em (hr2.mut hb hv trivial ⟨dx, _, upd_same, (putW_ok (rx.ext e2) hrs).ext em⟩) (((hs.ext e1).ext e2).ext em)⟩
      · exact h2.elim
    · exact h2.elim
  | _ => exact h2.elim
theorem js_dput {i : Expr} {pos' : Pos} (hu : X.A.units + 1 < cLine) (ho : JE X Cl E o md) (hi : JE X Cl E i mk) (he : JE X Cl E e ma) (hs : swapsWith e (some (.Subscript o i pos')) pos.line X.env = pure false := by rfl) :
    JS X Cl E (.Assign [.Subscript o i pos'] e pos) (mDPut md mk ma) := by
  obtain ⟨_, p1, q1⟩ := he.ex
  obtain ⟨_, p2, q2⟩ := ho.ex
  obtain ⟨_, p3, q3⟩ := hi.ex
  refine ⟨_, ps_dput hu p2 p3 p1 hs, fun β H σ s st D hr hs h => q1 β H σ s st _ hr hs (h.run fun x st1 β1 H1 v _ e1 hr1 rx h1 => q2 β1 H1 σ s st1 _ hr1 (hs.ext e1) (h1.run fun y st2 β2 H2 u _ e2 hr2 ry0 h2 =>
    q3 β2 H2 σ s st2 _ hr2 ((hs.ext e1).ext e2) (h2.run fun z st3 β3 H3 t _ e3 hr3 rz h3 => ?_)))⟩
  have ry := ry0.ext e3
  cases y with
  | ref r =>
    simp only at h3
    split at h3
    · rename_i kvs k es ek
      split at h3
      · rename_i hl
        obtain ⟨a, rfl, hb, gs, hv, hrs⟩ := ry.atRef hr3 es (by intro z; cases z)
        have em : Ext X.K β3 H3 β3 (upd H3 a (.dK (putK gs k v))) := Ext.mut hr3 hb hv trivial
        exact ⟨a, _, rfl, .inl ⟨gs, k, hv, toKey_ok rz ek, by rw [← hrs.length]; exact hl, rfl⟩, h3 β3 _ σ em (hr3.mut hb hv trivial ⟨_, upd_same, (hrs.put k ((rx.ext e2).ext e3)).ext em⟩) ((((hs.ext e1).ext e2).ext e3).ext em)⟩
      · exact h3.elim
    · exact h3.elim
  | _ => exact h3.elim
theorem js_aug (i : Nat) {x : Str} {op : Operator} {f : Int → Int → Int} {pos' : Pos} (hN : X.N.Nodup) (ho : PIp X op (ipI f)) (he : JE X Cl E e ma) (hi : X.N[i]? = some x := by rfl) (hx : Loc X.env.scope x := by first | exact .inl rfl | exact .inr rfl) (hf : X.fn x = true ∨ X.env.scope.names.lookup x = some .local := by first | exact .inl rfl | exact .inr rfl) :
    JS X Cl E (.AugAssign (.Name x pos') op e pos) (mAug i ma f) := by
  obtain ⟨_, p1, q1⟩ := he.ex
  refine ⟨_, ps_aug hN hi hx p1 ho hf, fun β H σ s st D hr hs h => ?_⟩
  unfold mAug at h
  split at h
  · rename_i z ez
    obtain ⟨v, hv, rz⟩ := hs.2 i _ ez
    cases rz
    refine ⟨_, hv, q1 β H σ s st _ hr hs (h.run fun x st1 β1 H1 v _ e1 hr1 rx h1 => ?_)⟩
    cases x with
    | int b =>
      cases rx
      exact ⟨_, _, rfl, rfl, PoS.val h1 hr1 ((hs.ext e1).set (.int _))⟩
    | _ => exact h1.elim
  · exact h.elim
end

/-! ### while -/
/-- n: the turns at most -/
def mWhileN (c : MT) (body : MS) : Nat → MS
  | 0 => fun _ _ => .stuck
  | n + 1 => fun s st => (c s st).run fun k st1 => if k = true then
      match body s st1 with
      | .nx s2 st2 => mWhileN c body n s2 st2
      | .ct s2 st2 => mWhileN c body n s2 st2
      | .bk s2 st2 => .nx s2 st2
      | o => o
    else .nx s st1
section
variable {X : Cx} {Cl : Nat → Addr} {E : XK} {pos : Pos} {mc : MT} {mb : MS} {c : Expr} {body : List Stmt}
theorem ss_while {K : PySem.W.Frag} {tc : TT} {tb : TS} (hc : ST K Cl E tc mc) (hb : SS K Cl E tb mb) (n : Nat) : SS K Cl E (tWhile tc tb) (mWhileN mc mb n) := fun β H σ s st D hr hs h => by
  refine ⟨fun m σ' H' => ∃ β' s' st', HR K Cl β' H' st' ∧ SR K β' H' s' σ' ∧ PoS K Cl E D β' H' (mWhileN mc mb m s' st'), ⟨n, β, s, st, hr, hs, h⟩, ?_⟩
  rintro m σ1 H1 ⟨β1, s1, st1, hr1, hs1, h1⟩
  cases m with
  | zero => exact h1.elim
  | succ m =>
    unfold mWhileN at h1
    refine hc β1 H1 σ1 s1 st1 _ hr1 hs1 (h1.run fun k st2 β2 H2 kv _ e2 hr2 rk h2 => ?_)
    cases rk
    cases k with
    | false =>
      rw [if_neg Bool.false_ne_true] at h2 ⊢
      exact PoS.val h2 hr2 (hs1.ext e2)
    | true =>
      rw [if_pos rfl] at h2 ⊢
      refine ⟨fun σ' H' => ∃ β' s' st', HR K Cl β' H' st' ∧ SR K β' H' s' σ' ∧ PoS K Cl E D β' H' (mWhileN mc mb m s' st'), fun σ' H' q => ⟨m, Nat.lt_succ_self m, q⟩, hb β2 H2 σ1 s1 st2 _ hr2 (hs1.ext e2) ?_⟩
      cases eb : mb s1 st2 with
      | nx s3 st3 => rw [eb] at h2; exact fun β3 H3 σ3 e3 hr3 hs3 => ⟨β3, s3, st3, hr3, hs3, PoS.ext e3 h2⟩
      | ct s3 st3 => rw [eb] at h2; exact fun β3 H3 σ3 e3 hr3 hs3 => ⟨β3, s3, st3, hr3, hs3, PoS.ext e3 h2⟩
      | bk s3 st3 => rw [eb] at h2; exact h2
      | rt w st3 => rw [eb] at h2; exact h2
      | exc c fs st3 => rw [eb] at h2; exact h2
      | stuck => rw [eb] at h2; exact h2
theorem js_while (n : Nat) (hp : PassesOwn (model X.prog X.w) X.A X.env X.xe) (hc : JT X Cl E c mc) (hb : JSs X Cl E body mb) : JS X Cl E (.While c body [] pos) (mWhileN mc mb n) := by
  obtain ⟨_, p1, q1⟩ := hc.ex
  obtain ⟨_, p2, q2⟩ := hb.ex
  exact ⟨_, ps_while hp p1 p2, ss_while q1 q2 n⟩
end

/-! ### what is walked -/
/-- values that stand, or a list of the store of so many items -/
inductive Src where
  | vals (ws : List W) | cell (i n : Nat)
def Src.len : Src → Nat
  | .vals ws => ws.length
  | .cell _ n => n
def Src.at : Src → Nat → Sto → Option W
  | .vals ws, j, _ => ws[j]?
  | .cell i n, j, st => match st[i]? with
    | some (.lst ws) => if ws.length = n then ws[j]? else none
    | _ => none
def Src.fine : Src → Sto → Bool
  | .vals _, _ => true
  | .cell i n, st => match st[i]? with
    | some (.lst ws) => decide (ws.length = n)
    | _ => false
abbrev MI := Slo → Sto → Out Src
/-- the walk J goes over src, from (β0, H0) on -/
structure WalkS (K : PySem.W.Frag) (Cl : Nat → Addr) (β0 : Bt) (H0 : Hp) (J : It) (src : Src) : Prop where
  ex : ∃ G Y, Walk J src.len G Y ∧ (∀ β H st, Ext K β0 H0 β H → HR K Cl β H st → src.fine st = true → G H) ∧
    ∀ i H x H' β st w, Ext K β0 H0 β H → HR K Cl β H st → src.at i st = some w → Y i H x H' → Ext K β H β H' ∧ HR K Cl β H' st ∧ RV K β H' w x
def PoI (K : PySem.W.Frag) (Cl : Nat → Addr) (E : XK) (β : Bt) (H : Hp) (R : It → Hp → Prop) : Out Src → Prop
  | .ok src st => ∀ β' H' J, Ext K β H β' H' → HR K Cl β' H' st → WalkS K Cl β' H' J src → R J H'
  | .exc c fs st => ∀ β' H' d, Ext K β H β' H' → HR K Cl β' H' st → RX K β' H' fs d → E (.ref (Cl c)) d H'
  | .stuck => False
structure JI (X : Cx) (Cl : Nat → Addr) (E : XK) (tg iter : Expr) (m : MI) : Prop where
  ex : ∃ w, PI X tg iter w ∧ ∀ β H σ s st R, HR X.K Cl β H st → SR X.K β H s σ → PoI X.K Cl E β H R (m s st) → w σ H R
@[simp] def mILst (e : ME) : MI := fun s st => (e s st).bind fun x st1 => match x with
  | .lst ws => .ok (.vals ws) st1
  | .xst ws => .ok (.vals ws) st1
  | .ref i => match st1[i]? with
    | some (.lst ws) => .ok (.cell i ws.length) st1
    | _ => .stuck
  | _ => .stuck
@[simp] def mITup (e : ME) : MI := fun s st => (e s st).bind fun x st1 => match x with
  | .tup ws => .ok (.vals ws) st1
  | _ => .stuck
def rngW (lo : Int) (n : Nat) : List W := (List.range n).map fun i => .int (lo + (i : Nat))
/-- the bounds of a range's ends (by natAbs: the kernel does not count them) -/
def rngOk (j : Int) : Bool := decide (j.natAbs < 4611686018427387904)
theorem rngOk_iff {j : Int} (h : rngOk j = true) : -(2 ^ 62) ≤ j ∧ j < 2 ^ 62 := by
  have h2 : j.natAbs < 4611686018427387904 := of_decide_eq_true h
  have e : (2 : Int) ^ 62 = 4611686018427387904 := by decide
  rw [e]
  omega
@[simp] theorem rngOk_eq (j : Int) : (rngOk j = true) = (j.natAbs < 4611686018427387904) := by simp [rngOk]
@[simp] def mIRng1 (a : MA) : MI := fun s st => (a s st).bind fun xs st1 => match xs with
  | [.int j] => if rngOk j = true then .ok (.vals (rngW 0 j.toNat)) st1 else .stuck
  | _ => .stuck
@[simp] def mIRng2 (a : MA) : MI := fun s st => (a s st).bind fun xs st1 => match xs with
  | [.int i, .int j] => if rngOk i = true ∧ rngOk j = true then .ok (.vals (rngW i (j - i).toNat)) st1 else .stuck
  | _ => .stuck
/-- range(i, j, c), c positive -/
@[simp] def mIRng3 (a : MA) : MI := fun s st => (a s st).bind fun xs st1 => match xs with
  | [.int i, .int j, .int c] => if rngOk i = true ∧ rngOk j = true ∧ 0 < c ∧ c < 1073741824 then .ok (.vals ((List.range ((j - i + c - 1) / c).toNat).map fun k => .int (i + (k : Nat) * c))) st1 else .stuck
  | _ => .stuck
@[simp] def mIEnum (a : MA) : MI := fun s st => (a s st).bind fun xs st1 => match xs with
  | [.lst ws] => .ok (.vals ((List.range ws.length).map fun i => .tup [.int (i : Nat), ws.getD i .non])) st1
  | [.xst ws] => .ok (.vals ((List.range ws.length).map fun i => .tup [.int (i : Nat), ws.getD i .non])) st1
  | _ => .stuck
section
variable {X : Cx} {Cl : Nat → Addr} {E : XK} {pos p : Pos} {ma : ME} {mr : MA} {tg e a b c : Expr}
theorem Out.bindI {K : PySem.W.Frag} {β : Bt} {H : Hp} {α ω : Type} {R1 : Bt → Hp → α → ω → Prop} {R : It → Hp → Prop} {Q1 : ω → Hp → Prop} {o : Out α} {f : α → Sto → Out Src} (h : PoI K Cl E β H R (o.bind f))
    (k : ∀ a st1 β1 H1 v, o = .ok a st1 → Ext K β H β1 H1 → HR K Cl β1 H1 st1 → R1 β1 H1 a v → PoI K Cl E β1 H1 R (f a st1) → Q1 v H1) : PoG K Cl R1 E β H Q1 o := by
  cases o with
  | ok a st =>
    refine fun β1 H1 v e hr r => k a st β1 H1 v rfl e hr r ?_
    have h' : PoI K Cl E β H R (f a st) := h
    cases ef : f a st with
    | ok src st2 => rw [ef] at h'; exact fun β2 H2 J e2 hr2 w => h' β2 H2 J (e.trans e2) hr2 w
    | exc c fs st2 => rw [ef] at h'; exact fun β2 H2 d e2 hr2 w => h' β2 H2 d (e.trans e2) hr2 w
    | stuck => rw [ef] at h'; exact h'
  | exc c fs st => exact h
  | stuck => exact h
theorem walkS_list {K : PySem.W.Frag} {β : Bt} {H : Hp} {p : Addr} {ws : List W} {vs : List V} (hl : ∀ β' H', Ext K β H β' H' → SqL K H' p vs) (r : RVs K β H ws vs) : WalkS K Cl β H (Itl K p) (.vals ws) := by
  refine ⟨_, _, (show Walk (Itl K p) ws.length _ _ from by rw [r.length]; exact walk_list (xs := vs)), fun β' H' st e hr _ => hl β' H' e, fun i H1 x H2 β1 st w e hr hw y => ?_⟩
  obtain ⟨rfl, hx⟩ := y
  obtain ⟨v, hv, rv⟩ := r.get (show ws[i]? = some w from hw)
  rw [hx] at hv
  cases hv
  exact ⟨Ext.refl _ _ _, hr, rv.ext e⟩
theorem walkS_tup {K : PySem.W.Frag} {β : Bt} {H : Hp} {p : Addr} {ws : List W} {vs : List V} (hl : SqT K H p vs) (r : RVs K β H ws vs) : WalkS K Cl β H (Itt K p) (.vals ws) := by
  refine ⟨_, _, (show Walk (Itt K p) ws.length _ _ from by rw [r.length]; exact walk_tup (xs := vs)), fun β' H' st e hr _ => e.tup _ _ hl, fun i H1 x H2 β1 st w e hr hw y => ?_⟩
  obtain ⟨rfl, hx⟩ := y
  obtain ⟨v, hv, rv⟩ := r.get (show ws[i]? = some w from hw)
  rw [hx] at hv
  cases hv
  exact ⟨Ext.refl _ _ _, hr, rv.ext e⟩
theorem HR.stay {K : PySem.W.Frag} {β β' : Bt} {H H' : Hp} {st : Sto} {i : Nat} {a : Addr} {ob : Ob} (e : Ext K β H β' H') (hr : HR K Cl β' H' st) (hb : β.l[i]? = some (some a)) (hs : st[i]? = some ob) (hd : ob ≠ .dead) : β'.l[i]? = some (some a) := by
  rcases e.live _ _ hb with q | q
  · exact q
  · rw [hr.dead i q] at hs
    exact absurd (Option.some.inj hs).symm hd
theorem walkS_cell {K : PySem.W.Frag} {β : Bt} {H : Hp} {i n : Nat} {a : Addr} (hb : β.l[i]? = some (some a)) : WalkS K Cl β H (Itl K a) (.cell i n) := by
  refine ⟨fun H' => ∃ vs, SqL K H' a vs ∧ vs.length = n, fun j H1 x H2 => H2 = H1 ∧ ∀ xs, SqL K H1 a xs → xs[j]? = some x, ⟨fun j H1 hj ⟨vs, hq, hl⟩ => ⟨vs, vs[j]'(by rw [hl]; exact hj), hq, by simp [hl, show j < n from hj]⟩, fun H1 ⟨vs, hq, hl⟩ => ⟨vs, hq, by rw [hl]; exact Nat.le_refl _⟩, fun j H1 x H2 hj _ y => y⟩, fun β' H' st e hr hf => ?_, fun j H1 x H2 β1 st w e hr hw y => ?_⟩
  · unfold Src.fine at hf
    simp only at hf
    split at hf
    · rename_i ws es
      have hb' := hr.stay e hb es (by intro z; cases z)
      obtain ⟨vs, hv, hrs⟩ := hr.ob i a _ hb' es
      exact ⟨vs, SqL.of hv, by rw [← hrs.length]; exact of_decide_eq_true hf⟩
    · cases hf
  · obtain ⟨rfl, hx⟩ := y
    unfold Src.at at hw
    simp only at hw
    split at hw
    · rename_i ws es
      split at hw
      · have hb' := hr.stay e hb es (by intro z; cases z)
        obtain ⟨vs, hv, hrs⟩ := hr.ob i a _ hb' es
        obtain ⟨v, hv', rv⟩ := hrs.get hw
        rw [hx vs (SqL.of hv)] at hv'
        cases hv'
        exact ⟨Ext.refl _ _ _, hr, rv⟩
      · cases hw
    · cases hw
theorem ji_lst (h : JE X Cl E e ma) : JI X Cl E tg e (mILst ma) := by
  obtain ⟨t, p, q⟩ := h.ex
  refine ⟨_, pi_list p, fun β H σ s st R hr hs h => q β H σ s st _ hr hs (Out.bindI h fun x st1 β1 H1 v _ e1 hr1 rx h1 => ?_)⟩
  cases x with
  | lst ws =>
    cases rx with
    | lst hv hn r1 => exact ⟨_, rfl, ⟨_, SqL.of hv⟩, h1 β1 H1 _ (Ext.refl _ _ _) hr1 (walkS_list (fun β' H' e => SqL.of (e.lst _ _ hv hn).1) r1)⟩
  | xst ws =>
    cases rx with
    | xst hv r1 => exact ⟨_, rfl, ⟨_, KL.sq hv⟩, h1 β1 H1 _ (Ext.refl _ _ _) hr1 (walkS_list (fun β' H' e => KL.sq (hv.imp (fun x => x) fun ⟨o, x⟩ => ⟨o, e.frz _ _ _ x⟩)) r1)⟩
  | ref i =>
    simp only at h1
    split at h1
    · rename_i ws es
      obtain ⟨a, rfl, hb, vs, hv, hrs⟩ := rx.atRef hr1 es (by intro z; cases z)
      exact ⟨a, rfl, ⟨vs, SqL.of hv⟩, h1 β1 H1 _ (Ext.refl _ _ _) hr1 (walkS_cell hb)⟩
    · exact h1.elim
  | _ => exact h1.elim
theorem ji_tup (h : JE X Cl E e ma) : JI X Cl E tg e (mITup ma) := by
  obtain ⟨t, p, q⟩ := h.ex
  refine ⟨_, pi_tup p, fun β H σ s st R hr hs h => q β H σ s st _ hr hs (Out.bindI h fun x st1 β1 H1 v _ e1 hr1 rx h1 => ?_)⟩
  cases x with
  | tup ws =>
    cases rx with
    | tup hv r1 => exact ⟨_, rfl, ⟨_, hv⟩, h1 β1 H1 _ (Ext.refl _ _ _) hr1 (walkS_tup hv r1)⟩
  | _ => exact h1.elim
theorem walkS_rng {K : PySem.W.Frag} {β : Bt} {H : Hp} {lo : Int} {n : Nat} : WalkS K Cl β H (Itr lo n) (.vals (rngW lo n)) := by
  refine ⟨_, _, (show Walk (Itr lo n) (rngW lo n).length _ _ from by rw [show (rngW lo n).length = n by simp [rngW]]; exact walk_range), fun β' H' st e hr _ => trivial, fun i H1 x H2 β1 st w e hr hw y => ?_⟩
  obtain ⟨rfl, rfl⟩ := y
  have hw' : (rngW lo n)[i]? = some w := hw
  unfold rngW at hw'
  rw [List.getElem?_map] at hw'
  by_cases hi : i < n
  · rw [List.getElem?_range hi] at hw'
    cases hw'
    exact ⟨Ext.refl _ _ _, hr, .int _⟩
  · rw [List.getElem?_eq_none (by simp; omega)] at hw'
    cases hw'
theorem walkS_rngC {K : PySem.W.Frag} {β : Bt} {H : Hp} {lo c : Int} {n : Nat} : WalkS K Cl β H (Itc lo c n) (.vals ((List.range n).map fun k => .int (lo + (k : Nat) * c))) := by
  refine ⟨_, _, (show Walk (Itc lo c n) ((List.range n).map fun k => W.int (lo + (k : Nat) * c)).length _ _ from by rw [show ((List.range n).map fun k => W.int (lo + (k : Nat) * c)).length = n by simp]; exact walk_rangeC), fun β' H' st e hr _ => trivial, fun i H1 x H2 β1 st w e hr hw y => ?_⟩
  obtain ⟨rfl, rfl⟩ := y
  have hw' : ((List.range n).map fun k => W.int (lo + (k : Nat) * c))[i]? = some w := hw
  rw [List.getElem?_map] at hw'
  by_cases hi : i < n
  · rw [List.getElem?_range hi] at hw'
    cases hw'
    exact ⟨Ext.refl _ _ _, hr, .int _⟩
  · rw [List.getElem?_eq_none (by simp; omega)] at hw'
    cases hw'
theorem ji_rng1 (hm : X.mg "range" = none) (ha : JA X Cl E [a] mr) (hg : Gl X "range" := by rfl) (hs : starEach [a] X.env = [(false, eval a X.env)] := by rfl) : JI X Cl E tg (.Call (.Name "range" p) [a] [] pos) (mIRng1 mr) := by
  obtain ⟨t, pr, q⟩ := ha.ex
  refine ⟨_, pi_range1 hg hm pr hs, fun β H σ s st R hr hs h => q β H σ s st _ hr hs (Out.bindI h fun x st1 β1 H1 v _ e1 hr1 rx h1 => ?_)⟩
  split at h1
  · split at h1
    · rename_i hz
      obtain ⟨u, rfl, ru⟩ := rx.one
      cases ru
      exact ⟨_, rfl, (rngOk_iff hz).1, (rngOk_iff hz).2, h1 β1 H1 _ (Ext.refl _ _ _) hr1 walkS_rng⟩
    · exact h1.elim
  · exact h1.elim
theorem ji_rng2 (hm : X.mg "range" = none) (ha : JA X Cl E [a, b] mr) (hg : Gl X "range" := by rfl) (hs : starEach [a, b] X.env = [(false, eval a X.env), (false, eval b X.env)] := by rfl) (hs2 : starEach [b] X.env = [(false, eval b X.env)] := by rfl) : JI X Cl E tg (.Call (.Name "range" p) [a, b] [] pos) (mIRng2 mr) := by
  obtain ⟨t, pr, q⟩ := ha.ex
  refine ⟨_, pi_range2 hg hm pr hs hs2, fun β H σ s st R hr hs h => q β H σ s st _ hr hs (Out.bindI h fun x st1 β1 H1 v _ e1 hr1 rx h1 => ?_)⟩
  split at h1
  · split at h1
    · rename_i hz
      obtain ⟨u, w, rfl, ru, rw'⟩ := rx.two
      cases ru; cases rw'
      exact ⟨_, _, rfl, ⟨(rngOk_iff hz.1).1, (rngOk_iff hz.1).2, (rngOk_iff hz.2).1, (rngOk_iff hz.2).2⟩, h1 β1 H1 _ (Ext.refl _ _ _) hr1 walkS_rng⟩
    · exact h1.elim
  · exact h1.elim
end

/-! ### for -/
def mLoop (src : Src) (g : MG) (body : MS) : Nat → Nat → MS
  | 0, _ => fun s st => if src.fine st = true then .nx s st else .stuck
  | k + 1, i => fun s st => if src.fine st = true then match src.at i st with
      | some w => match g w s st with
        | some (s1, st1) => match body s1 st1 with
          | .nx s2 st2 => mLoop src g body k (i + 1) s2 st2
          | .ct s2 st2 => mLoop src g body k (i + 1) s2 st2
          | .bk s2 st2 => .nx s2 st2
          | o => o
        | none => .stuck
      | none => .stuck
    else .stuck
@[simp] def mFor (it : MI) (g : MG) (body : MS) : MS := fun s st => (it s st).run fun src st1 => mLoop src g body src.len 0 s st1
section
variable {X : Cx} {Cl : Nat → Addr} {E : XK} {pos : Pos} {mi : MI} {mg : MG} {mb : MS} {tg iter : Expr} {body : List Stmt}
theorem js_for (hp : PassesOwn (model X.prog X.w) X.A X.env X.xe) (hc : X.calm = true) (hi : JI X Cl E tg iter mi) (hg : JG X Cl tg mg) (hb : JSs X Cl E body mb) (hs : ∀ x, foldedSetIterable iter X.env x = pure x := by intro _; rfl) : JS X Cl E (.For tg iter body [] pos) (mFor mi mg mb) := by
  obtain ⟨_, p1, q1⟩ := hi.ex
  obtain ⟨_, p2, q2⟩ := hg.ex
  obtain ⟨_, p3, q3⟩ := hb.ex
  refine ⟨_, ps_for hp hc p1 p2 p3 hs, fun β H σ s st D hr hs h => q1 β H σ s st _ hr hs ?_⟩
  unfold mFor at h
  cases ei : mi s st with
  | stuck => rw [ei] at h; exact h
  | exc c fs st1 => rw [ei] at h; exact h
  | ok src st1 =>
    rw [ei] at h
    intro β1 H1 J e1 hr1 w
    have h1 : PoS X.K Cl E D β1 H1 (mLoop src mg mb src.len 0 s st1) := PoS.ext e1 h
    obtain ⟨G, Y, wk, hG, hY⟩ := w.ex
    have fine : ∀ k i s st, PoS X.K Cl E D β1 H1 (mLoop src mg mb k i s st) → src.fine st = true := fun k i s st hh => by
      cases k with
      | zero => unfold mLoop at hh; split at hh; assumption; exact hh.elim
      | succ k => unfold mLoop at hh; split at hh; assumption; exact hh.elim
    refine for_it wk (fun i σ' H' => ∃ β' s' st', Ext X.K β1 H1 β' H' ∧ HR X.K Cl β' H' st' ∧ SR X.K β' H' s' σ' ∧ src.fine st' = true ∧ PoS X.K Cl E D β' H' (mLoop src mg mb (src.len - i) i s' st')) ⟨β1, s, st1, Ext.refl _ _ _, hr1, hs.ext e1, fine _ _ _ _ h1, by rw [Nat.sub_zero]; exact h1⟩ (fun i σ' H' hi ⟨β', s', st', e', hr', hs', hf, h'⟩ => hG β' H' st' e' hr' hf) (fun i x σ' H' H2 hi ⟨β', s', st', e', hr', hs', hf, h'⟩ y => ?_) (fun σ' H' ⟨β', s', st', e', hr', hs', hf, h'⟩ => ?_)
    · obtain ⟨k, hk⟩ : ∃ k, src.len - i = k + 1 := ⟨src.len - i - 1, by omega⟩
      rw [hk] at h'
      unfold mLoop at h'
      rw [if_pos hf] at h'
      split at h'
      · rename_i w ew
        obtain ⟨e2, hr2, rw2⟩ := hY i H' x H2 β' st' w e' hr' ew y
        refine q2 β' H2 σ' s' st' w x _ hr2 (hs'.ext e2) rw2 ?_
        split at h'
        · rename_i s3 st3 eg
          rw [eg]
          intro β3 H3 σ3 e3 hr3 hs3
          refine q3 β3 H3 σ3 s3 st3 _ hr3 hs3 ?_
          have e23 := e2.trans e3
          have nxt : ∀ s4 st4, PoS X.K Cl E D β' H' (mLoop src mg mb k (i + 1) s4 st4) → ∀ β4 H4 σ4, Ext X.K β3 H3 β4 H4 → HR X.K Cl β4 H4 st4 → SR X.K β4 H4 s4 σ4 → ∃ β' s' st', Ext X.K β1 H1 β' H4 ∧ HR X.K Cl β' H4 st' ∧ SR X.K β' H4 s' σ4 ∧ src.fine st' = true ∧ PoS X.K Cl E D β' H4 (mLoop src mg mb (src.len - (i + 1)) (i + 1) s' st') := fun s4 st4 h4 β4 H4 σ4 e4 hr4 hs4 => by
            have hk' : src.len - (i + 1) = k := by omega
            refine ⟨β4, s4, st4, e'.trans (e23.trans e4), hr4, hs4, ?_, by rw [hk']; exact PoS.ext (e23.trans e4) h4⟩
            cases k with
            | zero => unfold mLoop at h4; split at h4; assumption; exact h4.elim
            | succ k => unfold mLoop at h4; split at h4; assumption; exact h4.elim
          cases eb : mb s3 st3 with
          | nx s4 st4 => rw [eb] at h'; exact nxt s4 st4 h'
          | ct s4 st4 => rw [eb] at h'; exact nxt s4 st4 h'
          | bk s4 st4 => rw [eb] at h'; exact PoS.ext e23 h'
          | rt w4 st4 => rw [eb] at h'; exact PoS.ext e23 h'
          | exc c4 fs4 st4 => rw [eb] at h'; exact PoS.ext e23 h'
          | stuck => rw [eb] at h'; exact h'
        · exact h'.elim
      · exact h'.elim
    · rw [Nat.sub_self] at h'
      unfold mLoop at h'
      rw [if_pos hf] at h'
      exact PoS.val h' hr' hs'
end
end Mi
/-! The mirror layer, part F: comprehensions, defs and their calls, methods, new instances, the law's end. -/
namespace Mi
open PySem L2 PyProof.Rows

/-! ### one reading for each mirror -/
def tM (K : PySem.W.Frag) (Cl : Nat → Addr) (E : XK) (m : ME) : TE := fun σ H Q => ∃ β s st, HR K Cl β H st ∧ SR K β H s σ ∧ Po K Cl E β H Q (m s st)
def tMT (K : PySem.W.Frag) (Cl : Nat → Addr) (E : XK) (m : MT) : TT := fun σ H Q => ∃ β s st, HR K Cl β H st ∧ SR K β H s σ ∧ PoB K Cl E β H Q (m s st)
section
variable {X : Cx} {Cl : Nat → Addr} {E : XK} {e : Expr} {m : ME} {mt : MT}
theorem JE.pe (h : JE X Cl E e m) : PE X e (tM X.K Cl E m) := by
  obtain ⟨t, p, q⟩ := h.ex
  exact ⟨fun pins s σ H Q I ⟨β, sl, st, hr, hs, hp⟩ => p.run pins s σ H Q I (q β H σ sl st Q hr hs hp)⟩
theorem JT.pt (h : JT X Cl E e mt) : PT X e (tMT X.K Cl E mt) := by
  obtain ⟨t, p, q⟩ := h.ex
  exact ⟨fun pins s σ H Q I ⟨β, sl, st, hr, hs, hp⟩ => p.run pins s σ H Q I (q β H σ sl st Q hr hs hp)⟩
theorem se_m {K : PySem.W.Frag} : SE K Cl E (tM K Cl E m) m := fun β H σ s st Q hr hs h => ⟨β, s, st, hr, hs, h⟩
theorem st_m {K : PySem.W.Frag} : ST K Cl E (tMT K Cl E mt) mt := fun β H σ s st Q hr hs h => ⟨β, s, st, hr, hs, h⟩
end

/-! ### targets within a comprehension: they change its own names alone -/
theorem wipe_at {σ : L2.St} {j : Nat} : ∀ {vs : List Nat}, (wipe σ vs)[j]? = if j ∈ vs ∧ j < σ.length then some none else σ[j]?
  | [] => by simp [wipe]
  | v :: vs => by
    unfold wipe
    have ih := wipe_at (σ := σ) (j := j) (vs := vs)
    by_cases h : v = j
    · subst h
      by_cases hl : v < σ.length
      · rw [List.getElem?_set_self (by rw [wipe_length]; exact hl), if_pos ⟨List.mem_cons_self, hl⟩]
      · rw [List.getElem?_eq_none (by rw [List.length_set, wipe_length]; omega), if_neg (fun z => hl z.2), List.getElem?_eq_none (by omega)]
    · rw [List.getElem?_set_ne h, ih]
      by_cases hm : j ∈ vs ∧ j < σ.length
      · rw [if_pos hm, if_pos ⟨List.mem_cons_of_mem _ hm.1, hm.2⟩]
      · rw [if_neg hm, if_neg]
        rintro ⟨h1, h2⟩
        rcases List.mem_cons.mp h1 with z | z
        · exact h z.symm
        · exact hm ⟨z, h2⟩
theorem wipe_set {σ : L2.St} {i : Nat} {x : Option V} {vs : List Nat} (hi : i ∈ vs) : wipe (σ.set i x) vs = wipe σ vs := by
  apply List.ext_getElem?
  intro j
  rw [wipe_at, wipe_at, List.length_set]
  by_cases hm : j ∈ vs ∧ j < σ.length
  · rw [if_pos hm, if_pos hm]
  · rw [if_neg hm, if_neg hm]
    by_cases e : i = j
    · subst e
      have hl : ¬ i < σ.length := fun z => hm ⟨hi, z⟩
      rw [List.getElem?_eq_none (by rw [List.length_set]; omega), List.getElem?_eq_none (by omega)]
    · rw [List.getElem?_set_ne e]
def wipeW (s : Slo) : List Nat → Slo
  | [] => s
  | v :: vs => (wipeW s vs).set v none
def PoW (K : PySem.W.Frag) (Cl : Nat → Addr) (vs : List Nat) (σ : L2.St) (Q : L2.St → Hp → Prop) (β : Bt) (H : Hp) : Option (Slo × Sto) → Prop
  | some (s, st) => ∀ β' H' σ', wipe σ' vs = wipe σ vs → Ext K β H β' H' → HR K Cl β' H' st → SR K β' H' s σ' → Q σ' H'
  | none => False
theorem PoW.ext {K : PySem.W.Frag} {Cl : Nat → Addr} {vs : List Nat} {σ : L2.St} {Q : L2.St → Hp → Prop} {β β' : Bt} {H H' : Hp} {o : Option (Slo × Sto)} (e : Ext K β H β' H') (h : PoW K Cl vs σ Q β H o) : PoW K Cl vs σ Q β' H' o := by
  cases o with
  | some p => exact fun β2 H2 σ2 w e2 hr hs => h β2 H2 σ2 w (e.trans e2) hr hs
  | none => exact h
def SGW (K : PySem.W.Frag) (Cl : Nat → Addr) (vs : List Nat) (g : TG) (m : MG) : Prop := ∀ β H σ s st w v Q, HR K Cl β H st → SR K β H s σ → RV K β H w v → PoW K Cl vs σ Q β H (m w s st) → g v σ H Q
def SGsW (K : PySem.W.Frag) (Cl : Nat → Addr) (vs : List Nat) (g : TGs) (m : MGs) : Prop := ∀ β H σ s st ws us Q, HR K Cl β H st → SR K β H s σ → RVs K β H ws us → PoW K Cl vs σ Q β H (m ws s st) → g us σ H Q
/-- names of a comprehension's target, told as readings -/
inductive NT where
  | nm (i : Nat) | tp (ns : List NT)
mutual
def NT.g (K : PySem.W.Frag) : NT → TG
  | .nm i => gName i
  | .tp ns => gTup K ns.length (NT.gs K ns)
def NT.gs (K : PySem.W.Frag) : List NT → TGs
  | [] => gNil
  | n :: ns => gCons (NT.g K n) (NT.gs K ns)
end
mutual
def NT.m : NT → MG
  | .nm i => mGN i
  | .tp ns => mGTup ns.length (NT.ms ns)
def NT.ms : List NT → MGs
  | [] => mGNil
  | n :: ns => mGCons (NT.m n) (NT.ms ns)
end
mutual
def NT.within (vs : List Nat) : NT → Bool
  | .nm i => vs.contains i
  | .tp ns => NT.withins vs ns
def NT.withins (vs : List Nat) : List NT → Bool
  | [] => true
  | n :: ns => NT.within vs n && NT.withins vs ns
end
mutual
theorem NT.ok {K : PySem.W.Frag} {Cl : Nat → Addr} {vs : List Nat} : ∀ n : NT, NT.within vs n = true → SGW K Cl vs (NT.g K n) (NT.m n)
  | .nm i, hw => fun β H σ s st w v Q hr hs rw h => by
    simp only [NT.within] at hw
    exact h β H _ (wipe_set (List.contains_iff_mem.mp hw)) (Ext.refl _ _ _) hr (hs.set rw)
  | .tp ns, hw => fun β H σ s st w v Q hr hs rw h => by
    simp only [NT.within] at hw
    simp only [NT.m, mGTup] at h
    simp only [NT.g]
    split at h
    · split at h
      · rename_i hl
        cases rw with
        | tup h1 r1 => exact ⟨_, _, rfl, h1, by rw [← r1.length]; exact hl, NT.oks ns hw β H σ s st _ _ Q hr hs r1 h⟩
      · exact h.elim
    · exact h.elim
theorem NT.oks {K : PySem.W.Frag} {Cl : Nat → Addr} {vs : List Nat} : ∀ ns : List NT, NT.withins vs ns = true → SGsW K Cl vs (NT.gs K ns) (NT.ms ns)
  | [], hw => fun β H σ s st ws us Q hr hs rw h => by
    simp only [NT.ms, mGNil] at h
    simp only [NT.gs]
    split at h
    · cases rw
      exact ⟨rfl, h β H σ rfl (Ext.refl _ _ _) hr hs⟩
    · exact h.elim
  | n :: ns, hw => fun β H σ s st ws us Q hr hs rw h => by
    simp only [NT.withins, Bool.and_eq_true] at hw
    simp only [NT.ms, mGCons] at h
    simp only [NT.gs]
    split at h
    · cases rw with
      | cons r1 r2 =>
        refine ⟨_, _, rfl, NT.ok n hw.1 β H σ s st _ _ _ hr hs r1 ?_⟩
        split at h
        · rename_i s1 st1 e
          rw [e]
          exact fun β1 H1 σ1 w1 e1 hr1 hs1 => NT.oks ns hw.2 β1 H1 σ1 s1 st1 _ _ Q hr1 hs1 (r2.ext e1) (by
            have h' := PoW.ext e1 h
            revert h'
            unfold PoW
            split
            · exact fun h' β2 H2 σ2 w2 e2 hr2 hs2 => h' β2 H2 σ2 (w2.trans w1) e2 hr2 hs2
            · exact fun z => z)
        · exact h.elim
    · exact h.elim
end
/-- the target is read as n -/
structure JN (X : Cx) (tg : Expr) (n : NT) : Prop where
  pg : PG X tg (NT.g X.K n)
structure JNs (X : Cx) (tgs : List Expr) (ns : List NT) : Prop where
  pg : PGs X tgs (NT.gs X.K ns)
  len : tgs.length = ns.length
theorem jn_nm {X : Cx} {pos : Pos} (i : Nat) {x : Str} (hN : X.N.Nodup) (hi : X.N[i]? = some x := by rfl) (hx : Loc X.env.scope x := by first | exact .inl rfl | exact .inr rfl) (hf : X.fn x = true ∨ X.env.scope.names.lookup x = some .local := by first | exact .inl rfl | exact .inr rfl) : JN X (.Name x pos) (.nm i) := ⟨pg_name hN hi hx hf⟩
theorem jns_nil {X : Cx} : JNs X [] [] := ⟨pgs_nil, rfl⟩
theorem jns_cons {X : Cx} {t : Expr} {ts : List Expr} {n : NT} {ns : List NT} (h1 : JN X t n) (h2 : JNs X ts ns) (hs : (assignEach (t :: ts) X.env).map (·.2) = assign t X.env :: (assignEach ts X.env).map (·.2) := by rfl) : JNs X (t :: ts) (n :: ns) := ⟨pgs_cons h1.pg h2.pg hs, by rw [List.length_cons, List.length_cons, h2.len]⟩
theorem jn_tp {X : Cx} {ts : List Expr} {ns : List NT} {k : Nat} {pos : Pos} (hc : X.calm = true) (h : JNs X ts ns) (hn : (assignEach ts X.env).length = ns.length := by rfl) (hst : (assignEach ts X.env).findIdx? (·.1) = none := by rfl) : JN X (.Tuple ts k pos) (.tp ns) := ⟨pg_tup hc h.pg hn hst⟩

/-! ### list comprehensions -/
def mLcLoop (src : Src) (g : MG) (t : MT) (e : ME) (s : Slo) : Nat → Nat → List W → Sto → Out (List W)
  | 0, _, acc, st => if src.fine st = true then .ok acc st else .stuck
  | k + 1, i, acc, st => if src.fine st = true then match src.at i st with
      | some w => match g w s st with
        | some (s2, st1) => match t s2 st1 with
          | .ok true st2 => match e s2 st2 with
            | .ok y st3 => if acc.length < sizeLine then mLcLoop src g t e s k (i + 1) (acc ++ [y]) st3 else .stuck
            | _ => .stuck
          | .ok false st2 => mLcLoop src g t e s k (i + 1) acc st2
          | _ => .stuck
        | none => .stuck
      | none => .stuck
    else .stuck
@[simp] def mLc (it : MI) (n : NT) (t : MT) (e : ME) (vs : List Nat) : ME := fun s st => (it s st).bind fun src st1 => (mLcLoop src (NT.m n) t e (wipeW s vs) src.len 0 [] st1).bind fun ws st2 => .ok (.lst ws) st2
/-- the same, the list an object of the store -/
@[simp] def mLcS (it : MI) (n : NT) (t : MT) (e : ME) (vs : List Nat) : ME := fun s st => (it s st).bind fun src st1 => (mLcLoop src (NT.m n) t e (wipeW s vs) src.len 0 [] st1).bind fun ws st2 => .ok (.ref st2.length) (st2 ++ [.lst ws])
@[simp] def mYes : MT := fun _ st => .ok true st
structure JTs (X : Cx) (Cl : Nat → Addr) (E : XK) (cs : List Expr) (m : MT) : Prop where
  ex : PTs X cs (tMT X.K Cl E m)
section
variable {X : Cx} {Cl : Nat → Addr} {E : XK}
theorem jts_nil : JTs X Cl E [] mYes := ⟨⟨fun pins s σ H Q I ⟨β, sl, st, hr, hs, hp⟩ => pts_nil.run pins s σ H Q I (PoG.val hp hr rfl)⟩⟩
theorem jts_one {c : Expr} {m : MT} (h : JT X Cl E c m) : JTs X Cl E [c] m := ⟨pts_one h.pt⟩
theorem SR.wipe {K : PySem.W.Frag} {β : Bt} {H : Hp} {s : Slo} {σ : L2.St} (h : SR K β H s σ) : ∀ vs : List Nat, SR K β H (wipeW s vs) (L2.wipe σ vs)
  | [] => h
  | v :: vs => by
    have ih := SR.wipe h vs
    refine ⟨by show ((wipeW s vs).set v none).length = ((L2.wipe σ vs).set v none).length; rw [List.length_set, List.length_set, ih.1], fun i w hi => ?_⟩
    have hi : ((wipeW s vs).set v none)[i]? = some (some w) := hi
    show ∃ x, ((L2.wipe σ vs).set v none)[i]? = some (some x) ∧ RV K β H w x
    by_cases e : v = i
    · subst e
      by_cases hl : v < (wipeW s vs).length
      · rw [List.getElem?_set_self hl] at hi; cases hi
      · rw [List.getElem?_eq_none (by rw [List.length_set]; omega)] at hi; cases hi
    · rw [List.getElem?_set_ne e] at hi ⊢
      exact ih.2 i w hi
theorem PoW.E0 {K : PySem.W.Frag} {α ω : Type} {R : Bt → Hp → α → ω → Prop} {β : Bt} {H : Hp} {Q : ω → Hp → Prop} {o : Out α} (h : PoG K Cl R E β H Q o) (hx : ∀ c fs st, o ≠ .exc c fs st) : PoG K Cl R E0 β H Q o := by
  cases o with
  | ok a st => exact h
  | exc c fs st => exact absurd rfl (hx c fs st)
  | stuck => exact h
theorem se_lcG {K : PySem.W.Frag} {wi : TI} {mi : MI} {n : NT} {mt : MT} {me : ME} {vs : List Nat} (kk : List W → Sto → Out W) (hw : NT.within vs n = true) (hi : ∀ β H σ s st R, HR K Cl β H st → SR K β H s σ → PoI K Cl E β H R (mi s st) → wi σ H R)
    (hk : ∀ (β1 : Bt) (H1 : Hp) (st1 : Sto) (β' : Bt) (H' : Hp) (D : Addr) (acs : List V) (ws : List W) (st' : Sto) (Q : VK), HR K Cl β1 H1 st1 → Ext K β1 H1 β' H' → HR K Cl β' H' st' → D ∈ β'.pr → H' D = some (.lst acs) → RVs K β' H' ws acs → H1 D = none → PoG K Cl (RV K) E β1 H1 Q (kk ws st') → Q (.ref D) H') :
    SE K Cl E (tLc wi (NT.g K n) (tMT K Cl E0 mt) (tM K Cl E0 me) vs) (fun s st => (mi s st).bind fun src st1 => (mLcLoop src (NT.m n) mt me (wipeW s vs) src.len 0 [] st1).bind kk) := fun β H σ s st Q hr hs h => by
  refine hi β H σ s st _ hr hs ?_
  simp only at h
  cases ei : mi s st with
  | stuck => rw [ei] at h; exact h
  | exc c fs st1 => rw [ei] at h; exact h
  | ok src st1 =>
    rw [ei] at h
    intro β1 H1 J e1 hr1 w D hD
    obtain ⟨G, Y, wk, hG, hY⟩ := w.ex
    have eg : Ext K β1 H1 (β1.guard D) (upd H1 D (.lst [])) := Ext.guard hD
    have hrg : HR K Cl (β1.guard D) (upd H1 D (.lst [])) st1 := hr1.guard hD
    have hws : SR K β1 H1 (wipeW s vs) (wipe σ vs) := (hs.ext e1).wipe vs
    have h1 : PoG K Cl (RV K) E β1 H1 Q ((mLcLoop src (NT.m n) mt me (wipeW s vs) src.len 0 [] st1).bind kk) := PoG.ext e1 h
    have fine : ∀ k i acc st, (∃ ws st2, mLcLoop src (NT.m n) mt me (wipeW s vs) k i acc st = .ok ws st2) → src.fine st = true := fun k i acc st hh => by
      obtain ⟨ws, st2, hh⟩ := hh
      cases k with
      | zero => unfold mLcLoop at hh; split at hh; assumption; cases hh
      | succ k => unfold mLcLoop at hh; split at hh; assumption; cases hh
    -- the loop comes to an end
    have noexc : ∀ k i acc st c fs st2, mLcLoop src (NT.m n) mt me (wipeW s vs) k i acc st ≠ .exc c fs st2 := fun k => by
      induction k with
      | zero => intro i acc st c fs st2 z; unfold mLcLoop at z; split at z <;> cases z
      | succ k ih =>
        intro i acc st c fs st2 z
        unfold mLcLoop at z
        split at z
        · split at z
          · split at z
            · split at z
              · split at z
                · split at z
                  · exact ih _ _ _ _ _ _ z
                  · cases z
                · cases z
              · exact ih _ _ _ _ _ _ z
              · cases z
            · cases z
          · cases z
        · cases z
    obtain ⟨rs, stE, he⟩ : ∃ rs stE, mLcLoop src (NT.m n) mt me (wipeW s vs) src.len 0 [] st1 = .ok rs stE := by
      cases eo : mLcLoop src (NT.m n) mt me (wipeW s vs) src.len 0 [] st1 with
      | ok a b => exact ⟨a, b, rfl⟩
      | exc c fs st2 => exact absurd eo (noexc _ _ _ _ _ _ _)
      | stuck => rw [eo] at h1; exact h1.elim
    rw [he] at h1
    have hQ : PoG K Cl (RV K) E β1 H1 Q (kk rs stE) := h1
    refine lc_it wk (fun i H' => ∃ β' acc as st', Ext K β1 H1 β' H' ∧ HR K Cl β' H' st' ∧ D ∈ β'.pr ∧ H' D = some (.lst as) ∧ RVs K β' H' acc as ∧ src.fine st' = true ∧ mLcLoop src (NT.m n) mt me (wipeW s vs) (src.len - i) i acc st' = .ok rs stE)
      ⟨β1.guard D, [], [], st1, eg, hrg, List.mem_cons_self, upd_same, .nil, fine _ _ _ _ ⟨_, _, he⟩, by rw [Nat.sub_zero]; exact he⟩ (fun i H' hi ⟨β', acc, as, st', e', hr', hp', hd', ra, hf, h'⟩ => hG β' H' st' e' hr' hf) (fun i x H' H2 hi ⟨β', acc, as, st', e', hr', hp', hd', ra, hf, h'⟩ y => ?_) (fun H' ⟨β', acc, as, st', e', hr', hp', hd', ra, hf, h'⟩ => ?_)
    · obtain ⟨k, hk⟩ : ∃ k, src.len - i = k + 1 := ⟨src.len - i - 1, by omega⟩
      have hk' : src.len - (i + 1) = k := by omega
      rw [hk] at h'
      unfold mLcLoop at h'
      rw [if_pos hf] at h'
      split at h'
      · rename_i w ew
        obtain ⟨e2, hr2, rw2⟩ := hY i H' x H2 β' st' w e' hr' ew y
        refine NT.ok n hw β' H2 (wipe σ vs) (wipeW s vs) st' w x _ hr2 (hws.ext (e'.trans e2)) rw2 ?_
        split at h'
        · rename_i s3 st3 eg'
          rw [eg']
          intro β3 H3 σ3 w3 e3 hr3 hs3
          refine ⟨by rw [w3]; exact wipe_idem, β3, s3, st3, hr3, hs3, ?_⟩
          have keepD : ∀ {β4 : Bt} {H4 : Hp}, Ext K β' H' β4 H4 → D ∈ β4.pr ∧ H4 D = some (.lst as) := fun e4 => e4.prot D hp' _ hd'
          split at h'
          · rename_i st4 et
            rw [et]
            intro β4 H4 b e4 hr4 eb
            subst eb
            rw [if_pos rfl]
            have hs4 := hs3.ext e4
            refine ⟨β4, s3, st4, hr4, hs4, ?_⟩
            split at h'
            · rename_i yv st5 ee
              rw [ee]
              intro β5 H5 yV e5 hr5 ry
              split at h'
              · rename_i hz
                have e25 := (e2.trans e3).trans (e4.trans e5)
                obtain ⟨hp5, hd5⟩ := keepD e25
                have ra5 := ra.ext e25
                refine ⟨as, hd5, by rw [← ra.length]; exact hz, ?_⟩
                have kp : Keep K β5 H5 (upd H5 D (.lst (as ++ [yV]))) := Keep.gset hd5 hp5
                exact ⟨β5, acc ++ [yv], as ++ [yV], st5, Ext.gset hd5 hp5 β1 H1 (e'.trans e25) hD, hr5.gset hd5 hp5, hp5, upd_same, (ra5.append (.cons ry .nil)).keep kp, fine _ _ _ _ ⟨_, _, h'⟩, by rw [hk']; exact h'⟩
              · cases h'
            · cases h'
          · rename_i st4 et
            rw [et]
            intro β4 H4 b e4 hr4 eb
            subst eb
            rw [if_neg Bool.false_ne_true]
            have e24 := (e2.trans e3).trans e4
            obtain ⟨hp4, hd4⟩ := keepD e24
            exact ⟨β4, acc, as, st4, e'.trans e24, hr4, hp4, hd4, ra.ext e24, fine _ _ _ _ ⟨_, _, h'⟩, by rw [hk']; exact h'⟩
          · cases h'
        · cases h'
      · cases h'
    · rw [Nat.sub_self] at h'
      unfold mLcLoop at h'
      rw [if_pos hf] at h'
      cases h'
      exact hk β1 H1 st1 β' H' D _ _ _ Q hr1 e' hr' hp' hd' ra hD hQ
where
  wipe_idem {σ : L2.St} {vs : List Nat} : wipe (wipe σ vs) vs = wipe σ vs := by
    apply List.ext_getElem?
    intro j
    rw [wipe_at, wipe_at, wipe_length]
    by_cases hm : j ∈ vs ∧ j < σ.length
    · rw [if_pos hm, if_pos hm]
    · rw [if_neg hm, if_neg hm]
theorem se_lc {K : PySem.W.Frag} {wi : TI} {mi : MI} {n : NT} {mt : MT} {me : ME} {vs : List Nat} (hw : NT.within vs n = true) (hi : ∀ β H σ s st R, HR K Cl β H st → SR K β H s σ → PoI K Cl E β H R (mi s st) → wi σ H R) :
    SE K Cl E (tLc wi (NT.g K n) (tMT K Cl E0 mt) (tM K Cl E0 me) vs) (mLc mi n mt me vs) :=
  se_lcG _ hw hi fun β1 H1 st1 β' H' D acs ws st' Q hr1 e' hr' hp' hd' ra hD h => by
    have hsub : ∀ q, q ∈ β'.pr.filter (fun q => decide (q ≠ D)) → q ∈ β'.pr := fun q hq => (List.mem_filter.mp hq).1
    refine h ⟨β'.l, β'.pr.filter fun q => decide (q ≠ D)⟩ H' _ (Ext.drop e' (fun q hq => (hr1.prot q hq).1) hD) (hr'.drop rfl hsub) (.lst hd' ⟨(hr'.prot D hp').2, fun z => ?_⟩ (RVs.drop' (β := β') (β' := ⟨β'.l, β'.pr.filter fun q => decide (q ≠ D)⟩) rfl hsub ra))
    exact absurd rfl (of_decide_eq_true (List.mem_filter.mp z).2)
theorem live_app {l : List (Option Addr)} {x : Option Addr} {i : Nat} {o : Option Addr} (h : l[i]? = some o) : (l ++ [x])[i]? = some o := by
  rw [List.getElem?_append_left (List.getElem?_eq_some_iff.mp h).1]; exact h
theorem app_at {l : List (Option Addr)} {x y : Option Addr} {i : Nat} (h : (l ++ [x])[i]? = some y) : l[i]? = some y ∨ (i = l.length ∧ x = y) := by
  rcases Nat.lt_trichotomy i l.length with c | c | c
  · rw [List.getElem?_append_left c] at h; exact .inl h
  · subst c
    rw [List.getElem?_append_right (Nat.le_refl _)] at h
    simp at h
    exact .inr ⟨rfl, h⟩
  · rw [List.getElem?_eq_none (by simp; omega)] at h; cases h
mutual
/-- a value's relation where the store's table has grown by an address that nobody holds as a list -/
theorem RV.adopt {K : PySem.W.Frag} {β : Bt} {H : Hp} {D : Addr} {pr : List Addr} (hp : ∀ q, q ∈ pr → q ∈ β.pr) (hD : D ∈ β.pr) : ∀ {w : W} {v : V}, RV K β H w v → RV K ⟨β.l ++ [some D], pr⟩ H w v
  | _, _, .non => .non
  | _, _, .bl b => .bl b
  | _, _, .int i => .int i
  | _, _, .str x => .str x
  | _, _, .tup h r => .tup h (RVs.adopt hp hD r)
  | _, _, .lst h n r => .lst h ⟨fun i z => by
      rcases app_at z with z | ⟨_, z⟩
      · exact n.1 i z
      · cases z; exact n.2 hD, fun z => n.2 (hp _ z)⟩ (RVs.adopt hp hD r)
  | _, _, .xst h r => .xst h (RVs.adopt hp hD r)
  | _, _, .ref h => .ref (live_app h)
  | _, _, .dead h => .dead (live_app h)
theorem RVs.adopt {K : PySem.W.Frag} {β : Bt} {H : Hp} {D : Addr} {pr : List Addr} (hp : ∀ q, q ∈ pr → q ∈ β.pr) (hD : D ∈ β.pr) : ∀ {ws : List W} {vs : List V}, RVs K β H ws vs → RVs K ⟨β.l ++ [some D], pr⟩ H ws vs
  | _, _, .nil => .nil
  | _, _, .cons h r => .cons (RV.adopt hp hD h) (RVs.adopt hp hD r)
end
theorem RF.adopt {K : PySem.W.Frag} {β : Bt} {H : Hp} {D : Addr} {pr : List Addr} {κ : Type} (hp : ∀ q, q ∈ pr → q ∈ β.pr) (hD : D ∈ β.pr) : ∀ {ws : List (κ × W)} {vs : List (κ × V)}, RF K β H ws vs → RF K ⟨β.l ++ [some D], pr⟩ H ws vs
  | _, _, .nil => .nil
  | _, _, .cons h r => .cons (RV.adopt hp hD h) (RF.adopt hp hD r)
theorem ro_adopt {K : PySem.W.Frag} {Cl : Nat → Addr} {β : Bt} {H : Hp} {D : Addr} {pr : List Addr} (hp : ∀ q, q ∈ pr → q ∈ β.pr) (hD : D ∈ β.pr) {a : Addr} {o : Ob} (h : RO K Cl β H a o) : RO K Cl (Bt.mk (β.l ++ [some D]) pr) H a o := by
  cases o with
  | lst xs => obtain ⟨vs, h1, h2⟩ := h; exact ⟨vs, h1, h2.adopt hp hD⟩
  | dK kvs => obtain ⟨vs, h1, h2⟩ := h; exact ⟨vs, h1, h2.adopt hp hD⟩
  | dT kvs => obtain ⟨vs, h1, h2⟩ := h; exact ⟨vs, h1, h2.adopt hp hD⟩
  | ins c fs => obtain ⟨d, vs, h1, h2⟩ := h; exact ⟨d, vs, h1, h2.adopt hp hD⟩
  | dead => exact h
theorem se_lcS {K : PySem.W.Frag} {wi : TI} {mi : MI} {n : NT} {mt : MT} {me : ME} {vs : List Nat} (hw : NT.within vs n = true) (hi : ∀ β H σ s st R, HR K Cl β H st → SR K β H s σ → PoI K Cl E β H R (mi s st) → wi σ H R) :
    SE K Cl E (tLc wi (NT.g K n) (tMT K Cl E0 mt) (tM K Cl E0 me) vs) (mLcS mi n mt me vs) :=
  se_lcG _ hw hi fun β1 H1 st1 β' H' D acs ws st' Q hr1 e' hr' hp' hd' ra hD h => by
    have hsub : ∀ q, q ∈ β'.pr.filter (fun q => decide (q ≠ D)) → q ∈ β'.pr := fun q hq => (List.mem_filter.mp hq).1
    have nD : ∀ i : Nat, β'.l[i]? ≠ some (some D) := (hr'.prot D hp').2
    have ed := Ext.drop e' (fun q hq => (hr1.prot q hq).1) hD
    have ra' := ra.adopt hsub hp'
    refine h ⟨β'.l ++ [some D], β'.pr.filter fun q => decide (q ≠ D)⟩ H' _ ⟨ed.tup, fun q us hq n => ⟨(ed.lst q us hq n).1, fun i z => ?_, (ed.lst q us hq n).2.2⟩, ed.frz, fun i o hi => (ed.live i o hi).imp live_app live_app, ed.prot⟩ ⟨?_, ?_, ?_, ?_, ?_⟩ (.ref ?_)
    · rcases app_at z with z | ⟨_, z⟩
      · exact (ed.lst q us hq n).2.1 i z
      · cases z; rw [hD] at hq; cases hq
    · rw [List.length_append, List.length_append, hr'.len] <;> rfl
    · intro i j a hi hj
      rcases app_at hi with hi | ⟨hi, ei⟩
      · rcases app_at hj with hj | ⟨hj, ej⟩
        · exact hr'.inj i j a hi hj
        · cases ej; exact absurd hi (nD i)
      · rcases app_at hj with hj | ⟨hj, ej⟩
        · cases ei; exact absurd hj (nD j)
        · rw [hi, hj]
    · intro i a ob hi0 ho
      rcases app_at hi0 with hi | ⟨hi, ei⟩
      · have hl : i < st'.length := by rw [← hr'.len]; exact (List.getElem?_eq_some_iff.mp hi).1
        rw [List.getElem?_append_left hl] at ho
        exact ro_adopt hsub hp' (hr'.ob i a ob hi ho)
      · cases ei
        rw [hi, hr'.len, List.getElem?_append_right (Nat.le_refl _), Nat.sub_self] at ho
        cases ho
        exact ⟨acs, hd', ra'⟩
    · intro i hi
      rcases app_at hi with hi | ⟨_, ei⟩
      · have hl : i < st'.length := by rw [← hr'.len]; exact (List.getElem?_eq_some_iff.mp hi).1
        rw [List.getElem?_append_left hl]
        exact hr'.dead i hi
      · cases ei
    · intro q hq
      have hq2 := List.mem_filter.mp hq
      refine ⟨(hr'.prot q hq2.1).1, fun i z => ?_⟩
      rcases app_at z with z | ⟨_, z⟩
      · exact (hr'.prot q hq2.1).2 i z
      · cases z; exact absurd rfl (of_decide_eq_true hq2.2)
    · show (β'.l ++ [some D])[st'.length]? = some (some D)
      rw [← hr'.len]; simp
theorem je_lc {elt tg iter : Expr} {ifs : List Expr} {scope : Scope} {own : List (Str × Nat)} {pos : Pos} {mi : MI} {n : NT} {mt : MT} {me : ME} (hc : X.calm = true) (hN : X.N.Nodup) (hi : JI X Cl E tg iter mi) (ok : BlkOk X.N X.env.scope scope own)
    (hg : ∀ (s : Shared) (H : Hp) (C : Addr) (cl : List (Str × Addr)) (fp : List Addr), JN (X.blk s H scope (compEnvC scope cl C X.env) fp) tg n) (ht : ∀ (s : Shared) (H : Hp) (C : Addr) (cl : List (Str × Addr)) (fp : List Addr), JTs (X.blk s H scope (compEnvC scope cl C X.env) fp) Cl E0 ifs mt)
    (he : ∀ (s : Shared) (H : Hp) (C : Addr) (cl : List (Str × Addr)) (fp : List Addr), JE (X.blk s H scope (compEnvC scope cl C X.env) fp) Cl E0 elt me) (hw : NT.within (own.map (·.2)) n = true := by rfl) (hs : ∀ x, foldedSetIterable iter X.env x = pure x := by intro _; rfl) :
    JE X Cl E (.ListComp elt [⟨tg, iter, ifs, 0⟩] scope pos) (mLc mi n mt me (own.map (·.2))) := by
  obtain ⟨_, p1, q1⟩ := hi.ex
  exact ⟨_, pe_lc hc hN p1 ok (fun s H C cl fp => (hg s H C cl fp).pg) (fun s H C cl fp => (ht s H C cl fp).ex) (fun s H C cl fp => (he s H C cl fp).pe) hs, se_lc hw q1⟩
/-- name = [..] -/
theorem js_setLc (i : Nat) {y : Str} {py : Pos} {elt tg iter : Expr} {ifs : List Expr} {scope : Scope} {own : List (Str × Nat)} {pos spos : Pos} {mi : MI} {n : NT} {mt : MT} {me : ME} (hc : X.calm = true) (hN : X.N.Nodup)
    (hsw : swapsWith (.ListComp elt [⟨tg, iter, ifs, 0⟩] scope pos) (some (.Name y py)) spos.line X.env = pure true) (hi : JI X Cl E tg iter mi) (ok : BlkOk X.N X.env.scope scope own)
    (hg : ∀ (s : Shared) (H : Hp) (C : Addr) (cl : List (Str × Addr)) (fp : List Addr), JN (X.blk s H scope (compEnvC scope cl C X.env) fp) tg n) (ht : ∀ (s : Shared) (H : Hp) (C : Addr) (cl : List (Str × Addr)) (fp : List Addr), JTs (X.blk s H scope (compEnvC scope cl C X.env) fp) Cl E0 ifs mt)
    (he : ∀ (s : Shared) (H : Hp) (C : Addr) (cl : List (Str × Addr)) (fp : List Addr), JE (X.blk s H scope (compEnvC scope cl C X.env) fp) Cl E0 elt me) (hy : X.N[i]? = some y := by rfl) (hyl : X.env.scope.names.lookup y = some .local := by rfl) (hw : NT.within (own.map (·.2)) n = true := by rfl) (hs : ∀ x, foldedSetIterable iter X.env x = pure x := by intro _; rfl) :
    JS X Cl E (.Assign [.Name y py] (.ListComp elt [⟨tg, iter, ifs, 0⟩] scope pos) spos) (mAsg (mLc mi n mt me (own.map (·.2))) (mGN i)) := by
  obtain ⟨_, p1, q1⟩ := hi.ex
  refine ⟨_, ps_setLc hc hN hy hyl hsw p1 ok (fun s H C cl fp => (hg s H C cl fp).pg) (fun s H C cl fp => (ht s H C cl fp).ex) (fun s H C cl fp => (he s H C cl fp).pe) hs, fun β H σ s st D hr hs h => se_lc hw q1 β H σ s st _ hr hs (h.run fun x st1 β1 H1 v _ e1 hr1 rx h1 => PoS.val h1 hr1 ((hs.ext e1).set rx))⟩
theorem je_lcS {elt tg iter : Expr} {ifs : List Expr} {scope : Scope} {own : List (Str × Nat)} {pos : Pos} {mi : MI} {n : NT} {mt : MT} {me : ME} (hc : X.calm = true) (hN : X.N.Nodup) (hi : JI X Cl E tg iter mi) (ok : BlkOk X.N X.env.scope scope own)
    (hg : ∀ (s : Shared) (H : Hp) (C : Addr) (cl : List (Str × Addr)) (fp : List Addr), JN (X.blk s H scope (compEnvC scope cl C X.env) fp) tg n) (ht : ∀ (s : Shared) (H : Hp) (C : Addr) (cl : List (Str × Addr)) (fp : List Addr), JTs (X.blk s H scope (compEnvC scope cl C X.env) fp) Cl E0 ifs mt)
    (he : ∀ (s : Shared) (H : Hp) (C : Addr) (cl : List (Str × Addr)) (fp : List Addr), JE (X.blk s H scope (compEnvC scope cl C X.env) fp) Cl E0 elt me) (hw : NT.within (own.map (·.2)) n = true := by rfl) (hs : ∀ x, foldedSetIterable iter X.env x = pure x := by intro _; rfl) :
    JE X Cl E (.ListComp elt [⟨tg, iter, ifs, 0⟩] scope pos) (mLcS mi n mt me (own.map (·.2))) := by
  obtain ⟨_, p1, q1⟩ := hi.ex
  exact ⟨_, pe_lc hc hN p1 ok (fun s H C cl fp => (hg s H C cl fp).pg) (fun s H C cl fp => (ht s H C cl fp).ex) (fun s H C cl fp => (he s H C cl fp).pe) hs, se_lcS hw q1⟩
theorem js_setLcS (i : Nat) {y : Str} {py : Pos} {elt tg iter : Expr} {ifs : List Expr} {scope : Scope} {own : List (Str × Nat)} {pos spos : Pos} {mi : MI} {n : NT} {mt : MT} {me : ME} (hc : X.calm = true) (hN : X.N.Nodup)
    (hsw : swapsWith (.ListComp elt [⟨tg, iter, ifs, 0⟩] scope pos) (some (.Name y py)) spos.line X.env = pure true) (hi : JI X Cl E tg iter mi) (ok : BlkOk X.N X.env.scope scope own)
    (hg : ∀ (s : Shared) (H : Hp) (C : Addr) (cl : List (Str × Addr)) (fp : List Addr), JN (X.blk s H scope (compEnvC scope cl C X.env) fp) tg n) (ht : ∀ (s : Shared) (H : Hp) (C : Addr) (cl : List (Str × Addr)) (fp : List Addr), JTs (X.blk s H scope (compEnvC scope cl C X.env) fp) Cl E0 ifs mt)
    (he : ∀ (s : Shared) (H : Hp) (C : Addr) (cl : List (Str × Addr)) (fp : List Addr), JE (X.blk s H scope (compEnvC scope cl C X.env) fp) Cl E0 elt me) (hy : X.N[i]? = some y := by rfl) (hyl : X.env.scope.names.lookup y = some .local := by rfl) (hw : NT.within (own.map (·.2)) n = true := by rfl) (hs : ∀ x, foldedSetIterable iter X.env x = pure x := by intro _; rfl) :
    JS X Cl E (.Assign [.Name y py] (.ListComp elt [⟨tg, iter, ifs, 0⟩] scope pos) spos) (mAsg (mLcS mi n mt me (own.map (·.2))) (mGN i)) := by
  obtain ⟨_, p1, q1⟩ := hi.ex
  refine ⟨_, ps_setLc hc hN hy hyl hsw p1 ok (fun s H C cl fp => (hg s H C cl fp).pg) (fun s H C cl fp => (ht s H C cl fp).ex) (fun s H C cl fp => (he s H C cl fp).pe) hs, fun β H σ s st D hr hs h => se_lcS hw q1 β H σ s st _ hr hs (h.run fun x st1 β1 H1 v _ e1 hr1 rx h1 => PoS.val h1 hr1 ((hs.ext e1).set rx))⟩
end

/-! ### defs -/
/-- a def's body run with its arguments; nothing is raised -/
@[simp] def mDef (n k : Nat) (body : MS) : MF := fun ws st => if ws.length = n then match body (ws.map some ++ List.replicate k none) st with
    | .rt w st1 => .ok w st1
    | .nx _ st1 => .ok .non st1
    | _ => .stuck
  else .stuck
/-- .. that may raise -/
@[simp] def mDefX (n k : Nat) (body : MS) : MF := fun ws st => if ws.length = n then match body (ws.map some ++ List.replicate k none) st with
    | .rt w st1 => .ok w st1
    | .nx _ st1 => .ok .non st1
    | .exc c fs st1 => .exc c fs st1
    | _ => .stuck
  else .stuck
def NoX (m : MF) : Prop := ∀ ws st c fs st', m ws st ≠ .exc c fs st'
theorem nox_def {n k : Nat} {body : MS} : NoX (mDef n k body) := fun ws st c fs st' z => by
  unfold mDef at z
  split at z
  · split at z <;> cases z
  · cases z
/-- the promise that a def does what its mirror does -/
def spM (K : PySem.W.Frag) (Cl : Nat → Addr) (n : Nat) (m : MF) : Sp := fun vs H Q E => vs.length = n ∧ ∃ β ws st, HR K Cl β H st ∧ RVs K β H ws vs ∧ Po K Cl E β H Q (m ws st)
section
variable {P : Program} {w : World} {K : PySem.W.Frag} {Cl : Nat → Addr} {mg : Str → Option Value} {base : Heap}
theorem sr_start {β : Bt} {H : Hp} {ws : List W} {vs : List V} {N : List Str} {k : Nat} (r : RVs K β H ws vs) (hk : N.length - vs.length = k) : SR K β H (ws.map some ++ List.replicate k none) (L2.start N vs) := by
  unfold L2.start
  rw [hk]
  refine ⟨by simp [r.length], fun i u hi => ?_⟩
  by_cases hl : i < ws.length
  · rw [List.getElem?_append_left (by simpa using hl), List.getElem?_map] at hi
    cases e : ws[i]? with
    | none => rw [e] at hi; cases hi
    | some x =>
      rw [e] at hi
      cases hi
      obtain ⟨v, hv, rv⟩ := r.get e
      exact ⟨v, by rw [List.getElem?_append_left (by rw [List.length_map, ← r.length]; exact hl), List.getElem?_map, hv] <;> rfl, rv⟩
  · rw [List.getElem?_append_right (by simpa using hl)] at hi
    by_cases h2 : i - (ws.map some).length < k
    · rw [List.getElem?_replicate_of_lt h2] at hi; cases hi
    · rw [List.getElem?_eq_none (by simpa using h2)] at hi; cases hi
theorem fn_ok {x qual : Str} {st : Stmt} {f : Addr} {fd : FuncData} {N ps : List Str} {k n j : Nat} {body : MS} (F : Fun K x qual st f fd) (S : FnScope N ps (defScope st)) (hn : ps.length = n) (hj : N.length - n = j)
    (hb : ∀ (cdv : Value) (A : Around) (outer : List Env) (s : Shared) (H : Hp) (E : XK), Room k (A.deeper (envOfC qual (defScope st) s.heap.objs.size f cdv)) → JSs (cxOf CX0 P w K mg base N qual (defScope st) f cdv A outer s H E).nox Cl E0 (defBody st) body) :
    FnOk P w K mg base CX0 (k + 1) f fd ps (spM K Cl n (mDef n j body)) := by
  refine F.ok S (fun vs H Q E h => h.1.trans hn.symm) (fun cdv A outer s H vs Q E hr h => ?_)
  obtain ⟨hl, β, ws, sto, hR, rv, po⟩ := h
  obtain ⟨t, p, q⟩ := (hb cdv A outer s H E hr).ex
  refine ⟨t, p, q β H _ (ws.map some ++ List.replicate j none) sto _ hR (sr_start rv (by rw [hl]; exact hj)) ?_⟩
  unfold mDef at po
  rw [if_pos (rv.length.trans hl)] at po
  split at po
  · rename_i w1 st1 e
    rw [e]
    exact po
  · rename_i s1 st1 e
    rw [e]
    exact fun β' H' σ' e' hr' hs' => po β' H' .non e' hr' .non
  · exact po.elim
theorem fn_okX {x qual : Str} {st : Stmt} {f : Addr} {fd : FuncData} {N ps : List Str} {k n j : Nat} {body : MS} (F : Fun K x qual st f fd) (S : FnScope N ps (defScope st)) (hn : ps.length = n) (hj : N.length - n = j)
    (hb : ∀ (cdv : Value) (A : Around) (outer : List Env) (s : Shared) (H : Hp) (E : XK), Room k (A.deeper (envOfC qual (defScope st) s.heap.objs.size f cdv)) → JSs (cxOf (L2.CX P w) P w K mg base N qual (defScope st) f cdv A outer s H E) Cl E (defBody st) body) :
    FnOk P w K mg base (L2.CX P w) (k + 1) f fd ps (spM K Cl n (mDefX n j body)) := by
  refine F.okX S (fun vs H Q E h => h.1.trans hn.symm) (fun cdv A outer s H vs Q E hr h => ?_)
  obtain ⟨hl, β, ws, sto, hR, rv, po⟩ := h
  obtain ⟨t, p, q⟩ := (hb cdv A outer s H E hr).ex
  refine ⟨t, p, q β H _ (ws.map some ++ List.replicate j none) sto _ hR (sr_start rv (by rw [hl]; exact hj)) ?_⟩
  unfold mDefX at po
  rw [if_pos (rv.length.trans hl)] at po
  split at po
  · rename_i w1 st1 e
    rw [e]
    exact po
  · rename_i s1 st1 e
    rw [e]
    exact fun β' H' σ' e' hr' hs' => po β' H' .non e' hr' .non
  · rename_i c fs st1 e
    rw [e]
    exact po
  · exact po.elim
end

/-! ### calls -/
@[simp] def mCall (n : Nat) (m : MF) (a : MA) : ME := fun s st => (a s st).bind fun ws st1 => if ws.length = n then m ws st1 else .stuck
@[simp] def mMeth (c : Nat) (nm : Str) (n : Nat) (m : MF) (o : ME) (a : MA) : ME := fun s st => (o s st).bind fun x st1 => match x with
  | .ref i => match st1[i]? with
    | some (.ins d fs) => if d = c ∧ fs.lookup nm = none then (a s st1).bind fun ws st2 => if ws.length + 1 = n then m (x :: ws) st2 else .stuck else .stuck
    | _ => .stuck
  | _ => .stuck
@[simp] def mMake (c n : Nat) (m : MF) (a : MA) : ME := fun s st => (a s st).bind fun ws st1 => if ws.length + 1 = n then (m (.ref st1.length :: ws) (st1 ++ [.ins c []])).bind fun r st2 => match r with
    | .non => match st2[st1.length]? with
      | some (.ins _ _) => .ok (.ref st1.length) st2
      | _ => .stuck
    | _ => .stuck
  else .stuck
section
variable {X : Cx} {Cl : Nat → Addr} {E E1 : XK} {pos p apos : Pos} {ma mo : ME} {mr : MA} {e o : Expr} {es : List Expr} {k n f : Nat} {CX : CXT} {fd : FuncData} {ps : List Str} {m : MF} {x : Str}
/-- what a callee may raise reaches what is wished of exceptions here -/
structure Let (X : Cx) (CX : CXT) (E : XK) (m : MF) (E1 : XK) : Prop where
  ps : Passes CX X E1
  po : ∀ {Cl : Nat → Addr} {β : Bt} {H : Hp} {Q : VK} {ws : List W} {st : Sto}, Po X.K Cl E β H Q (m ws st) → Po X.K Cl E1 β H Q (m ws st)
theorem let0 (h : NoX m) : Let X CX0 E m E0 := ⟨pass0, fun {Cl β H Q ws st} hp => PoW.E0 hp (h ws st)⟩
theorem letX (h : Passes (L2.CX X.prog X.w) X E) : Let X (L2.CX X.prog X.w) E m E := ⟨h, fun h => h⟩
theorem se_call {K : PySem.W.Frag} {ta : TA} (hl : ∀ {β : Bt} {H : Hp} {Q : VK} {ws : List W} {st : Sto}, Po K Cl E β H Q (m ws st) → Po K Cl E1 β H Q (m ws st)) (q : SA K Cl E ta mr) : SE K Cl E (tCall (spM K Cl n m) [] E1 ta) (mCall n m mr) := fun β H σ s st Q hr hs h => q β H σ s st _ hr hs (h.bind fun ws st1 β1 H1 vs _ e1 hr1 rv h1 => by
  split at h1
  · rename_i hn
    rw [List.append_nil]
    exact ⟨by rw [← rv.length]; exact hn, β1, ws, st1, hr1, rv, hl h1⟩
  · exact h1.elim)
theorem je_call (F : FnOk X.prog X.w X.K X.mg X.base CX k f fd ps (spM X.K Cl n m)) (hr : Room k X.A) (hm : X.mg x = some (.ref f)) (hk : PySem.W.keepIn X.K (.ref f) = true) (hb : Binds X.K fd ps []) (hl : Let X CX E m E1) (ha : JA X Cl E (e :: es) mr) (hg : Gl X x := by rfl)
    (hdb : (x == ("__debug__" : Str)) = false := by decide) (he : starEach (e :: es) X.env = (false, eval e X.env) :: starEach es X.env := by rfl) (hpl : (backTo pos (starEach es X.env)).any (·.1) = false := by rfl) : JE X Cl E (.Call (.Name x p) (e :: es) [] pos) (mCall n m mr) := by
  obtain ⟨_, pr, q⟩ := ha.ex
  exact ⟨_, pe_call F hr hg hm hk hb .nil hl.ps pr hdb he hpl, se_call hl.po q⟩
theorem sa_nil {K : PySem.W.Frag} : SA K Cl E tNil mNil := fun β H σ s st Q hr hs h => PoG.val h hr .nil
theorem je_call0 (F : FnOk X.prog X.w X.K X.mg X.base CX k f fd ps (spM X.K Cl n m)) (hr : Room k X.A) (hm : X.mg x = some (.ref f)) (hk : PySem.W.keepIn X.K (.ref f) = true) (hb : Binds X.K fd ps []) (hl : Let X CX E m E1) (hg : Gl X x := by rfl) (hdb : (x == ("__debug__" : Str)) = false := by decide) :
    JE X Cl E (.Call (.Name x p) [] [] pos) (mCall n m mNil) := ⟨_, pe_call0 F hr hg hm hk hb .nil hl.ps hdb, se_call hl.po sa_nil⟩
theorem se_meth {K : PySem.W.Frag} {c : Nat} {nm : Str} {to : TE} {ta : TA} (hl : ∀ {β : Bt} {H : Hp} {Q : VK} {ws : List W} {st : Sto}, Po K Cl E β H Q (m ws st) → Po K Cl E1 β H Q (m ws st)) (qo : SE K Cl E to mo) (q : SA K Cl E ta mr) : SE K Cl E (tMeth (Cl c) nm (spM K Cl n m) [] E1 to ta) (mMeth c nm n m mo mr) := fun β H σ s st Q hr hs h => qo β H σ s st _ hr hs (h.bind fun x st1 β1 H1 v _ e1 hr1 rx h1 => by
  cases x with
  | ref i =>
    simp only at h1
    split at h1
    · rename_i d fs es
      split at h1
      · rename_i hd
        obtain ⟨rfl, hno⟩ := hd
        obtain ⟨a, rfl, hb, dx, gs, hv, hrs⟩ := rx.atRef hr1 es (by intro z; cases z)
        refine ⟨a, dx, gs, rfl, hv, hrs.lookN hno, q β1 H1 σ s st1 _ hr1 (hs.ext e1) (h1.bind fun ws st2 β2 H2 vs _ e2 hr2 rv h2 => ?_)⟩
        split at h2
        · rename_i hn
          rw [List.append_nil]
          exact ⟨by rw [List.length_cons, ← rv.length]; exact hn, β2, _, st2, hr2, .cons (rx.ext e2) rv, hl h2⟩
        · exact h2.elim
      · exact h1.elim
    · exact h1.elim
  | _ => exact h1.elim)
theorem je_meth {c : Nat} {nm : Str} {pl : Sem Bool} (hc : Cls X.K (Cl c)) (hm : Meth X.K (Cl c) nm f) (F : FnOk X.prog X.w X.K X.mg X.base CX k f fd ps (spM X.K Cl n m)) (hr : Room k X.A) (hb : Binds X.K fd ps []) (hl : Let X CX E m E1) (ho : JE X Cl E o mo) (ha : JA X Cl E (e :: es) mr)
    (hst : starEach (e :: es) X.env = (false, eval e X.env) :: starEach es X.env := by rfl) (hpl : (backTo pos (starEach es X.env)).any (·.1) = false := by rfl)
    (ht : eval (.Call (.Attribute o nm apos) (e :: es) [] pos) X.env = (do
      let ov ← eval o X.env
      standAt apos.atName
      let (f, first) ← holding [ov] (getMethod ov nm pl)
      callWith pos f first (backTo pos (starEach (e :: es) X.env)) (backToKw pos (keywordEach [] X.env))) := by rfl) :
    JE X Cl E (.Call (.Attribute o nm apos) (e :: es) [] pos) (mMeth c nm n m mo mr) := by
  obtain ⟨_, po, qo⟩ := ho.ex
  obtain ⟨_, pr, q⟩ := ha.ex
  exact ⟨_, pe_meth po hc hm F hr hb .nil hl.ps pr hst hpl ht, se_meth hl.po qo q⟩
theorem je_meth0 {c : Nat} {nm : Str} {pl : Sem Bool} (hc : Cls X.K (Cl c)) (hm : Meth X.K (Cl c) nm f) (F : FnOk X.prog X.w X.K X.mg X.base CX k f fd ps (spM X.K Cl n m)) (hr : Room k X.A) (hb : Binds X.K fd ps []) (hl : Let X CX E m E1) (ho : JE X Cl E o mo)
    (ht : eval (.Call (.Attribute o nm apos) [] [] pos) X.env = (do
      let ov ← eval o X.env
      standAt apos.atName
      let (f, first) ← holding [ov] (getMethod ov nm pl)
      callWith pos f first (backTo pos (starEach [] X.env)) (backToKw pos (keywordEach [] X.env))) := by rfl) :
    JE X Cl E (.Call (.Attribute o nm apos) [] [] pos) (mMeth c nm n m mo mNil) := by
  obtain ⟨_, po, qo⟩ := ho.ex
  exact ⟨_, pe_meth0 po hc hm F hr hb .nil hl.ps ht, se_meth hl.po qo sa_nil⟩
theorem se_make {K : PySem.W.Frag} {c : Nat} {ta : TA} (hl : ∀ {β : Bt} {H : Hp} {Q : VK} {ws : List W} {st : Sto}, Po K Cl E β H Q (m ws st) → Po K Cl E1 β H Q (m ws st)) (q : SA K Cl E ta mr) : SE K Cl E (tMake (Cl c) (spM K Cl n m) [] E1 ta) (mMake c n m mr) := fun β H σ s st Q hr hs h => q β H σ s st _ hr hs (h.bind fun ws st1 β1 H1 vs _ e1 hr1 rv h1 x dx hx hd hne => by
  split at h1
  · rename_i hn
    rw [List.append_nil]
    have hx2 : upd H1 dx (.own x) x = none := by rw [upd_ne hne.symm]; exact hx
    have ea : Ext K β1 H1 β1 (upd H1 dx (.own x)) := Ext.new hd
    have eb : Ext K β1 (upd H1 dx (.own x)) (β1.push x) (upd (upd H1 dx (.own x)) x (.ins (Cl c) dx [])) := Ext.push hx2
    have hr2 : HR K Cl (β1.push x) (upd (upd H1 dx (.own x)) x (.ins (Cl c) dx [])) (st1 ++ [.ins c []]) := (hr1.new hd).push hx2 ⟨dx, [], upd_same, .nil⟩
    have hb : (β1.push x).l[st1.length]? = some (some x) := by rw [← hr1.len]; exact push_last
    refine ⟨by rw [List.length_cons, ← rv.length]; exact hn, β1.push x, _, _, hr2, .cons (.ref hb) ((rv.ext ea).ext eb), hl ?_⟩
    refine ((PoG.ext (ea.trans eb) h1).bind fun r st2 β2 H2 v eq e2 hr3 rr h2 => ?_)
    split at h2
    · cases rr
      refine ⟨rfl, ?_⟩
      split at h2
      · rename_i es
        exact PoG.val h2 hr3 (.ref (hr3.stay e2 hb es (by intro z; cases z)))
      · exact h2.elim
    · exact h2.elim
  · exact h1.elim)
theorem je_make {c : Nat} (M : Mk X.K (Cl c) f) (F : FnOk X.prog X.w X.K X.mg X.base CX k f fd ps (spM X.K Cl n m)) (hr : Room (k + 1) X.A) (hm : X.mg x = some (.ref (Cl c))) (hb : Binds X.K fd ps []) (hl : Let X CX E m E1) (ha : JA X Cl E (e :: es) mr) (hg : Gl X x := by rfl)
    (hdb : (x == ("__debug__" : Str)) = false := by decide) (he : starEach (e :: es) X.env = (false, eval e X.env) :: starEach es X.env := by rfl) (hpl : (backTo pos (starEach es X.env)).any (·.1) = false := by rfl) : JE X Cl E (.Call (.Name x p) (e :: es) [] pos) (mMake c n m mr) := by
  obtain ⟨_, pr, q⟩ := ha.ex
  exact ⟨_, pe_make M F hr hg hm hb .nil hl.ps pr hdb he hpl, se_make hl.po q⟩
theorem je_make0 {c : Nat} (M : Mk X.K (Cl c) f) (F : FnOk X.prog X.w X.K X.mg X.base CX k f fd ps (spM X.K Cl n m)) (hr : Room (k + 1) X.A) (hm : X.mg x = some (.ref (Cl c))) (hb : Binds X.K fd ps []) (hl : Let X CX E m E1) (hg : Gl X x := by rfl) (hdb : (x == ("__debug__" : Str)) = false := by decide) :
    JE X Cl E (.Call (.Name x p) [] [] pos) (mMake c n m mNil) := ⟨_, pe_make0 M F hr hg hm hb .nil hl.ps hdb, se_make hl.po sa_nil⟩
end

theorem room65 {A : Around} {k : Nat} (hr : Room k A) : A.units + 65 < cLine := by have := hr.un; omega
theorem room1 {A : Around} {k : Nat} (hr : Room k A) : A.units + 1 < cLine := by have := hr.un; omega

/-! ### the law's end -/
def spLaw (K : PySem.W.Frag) (Cl : Nat → Addr) (m : MF) : Sp := spM K Cl 1 m
theorem rv_ints {K : PySem.W.Frag} {β : Bt} {H : Hp} : ∀ ns : List Int, RVs K β H (ns.map W.int) (ns.map V.int)
  | [] => .nil
  | n :: ns => .cons (.int n) (rv_ints ns)
theorem law_sp {K : PySem.W.Frag} {Cl : Nat → Addr} {m : MF} {H : Hp} {a : Addr} {ns : List Int} (hO : Only H) (hS : SqL K H a (ns.map V.int)) (h : ∃ st, m [.xst (ns.map W.int)] [] = .ok (.bl true) st) :
    spLaw K Cl m [.ref a] H (fun v _ => v = .bl true) fun _ _ _ => False := by
  obtain ⟨st, h⟩ := h
  refine ⟨rfl, ⟨[], []⟩, [.xst (ns.map W.int)], [], ⟨rfl, fun i j b hi => by simp at hi, fun i b o hi => by simp at hi, fun i hi => by simp at hi, fun p hp => by simp at hp⟩, .cons (.xst (vs := ns.map V.int) ?_ (rv_ints ns)) .nil, ?_⟩
  · rcases hS with (hS | hS) | hS
    · rcases hO a with z | ⟨o, xs, z⟩
      · rw [hS] at z; cases z
      · rw [hS] at z; cases z
    · exact .inr hS
    · exact .inl hS
  · rw [h]
    intro β' H' v e hr r
    cases r
    rfl
end Mi
/-! The mirror layer, part P: plain rules for the mirrors' loops. -/
namespace Mi
open PySem L2

/-- what a loop's body may come to: go on with `I`, or end as `R` says -/
@[simp] def Step (I : Slo → Sto → Prop) (R : SO → Prop) : SO → Prop
  | .nx s st => I s st
  | .ct s st => I s st
  | .bk s st => R (.nx s st)
  | .rt w st => R (.rt w st)
  | .exc c fs st => R (.exc c fs st)
  | .stuck => False
theorem loop_vals_at {ws : List W} {g : MG} {body : MS} (I : Nat → Slo → Sto → Prop) (R : SO → Prop)
    (step : ∀ i w s st, ws[i]? = some w → I i s st → ∃ s1 st1, g w s st = some (s1, st1) ∧ Step (I (i + 1)) R (body s1 st1))
    (fin : ∀ s st, I ws.length s st → R (.nx s st)) :
    ∀ (k i : Nat) (s : Slo) (st : Sto), i + k = ws.length → I i s st → R (mLoop (.vals ws) g body k i s st)
  | 0, i, s, st, e, h => by
    have e' : i = ws.length := by omega
    subst e'
    simp only [mLoop, Src.fine, if_true]
    exact fin s st h
  | k + 1, i, s, st, e, h => by
    have hi : i < ws.length := by omega
    obtain ⟨s1, st1, hg, hb⟩ := step i ws[i] s st (List.getElem?_eq_getElem hi) h
    have ih := loop_vals_at I R step fin k (i + 1)
    simp only [mLoop, Src.fine, if_true, Src.at, List.getElem?_eq_getElem hi, hg]
    cases hc : body s1 st1 with
    | nx s2 st2 => rw [hc] at hb; exact ih s2 st2 (by omega) hb
    | ct s2 st2 => rw [hc] at hb; exact ih s2 st2 (by omega) hb
    | bk s2 st2 => rw [hc] at hb; exact hb
    | rt w2 st2 => rw [hc] at hb; exact hb
    | exc c fs st2 => rw [hc] at hb; exact hb
    | stuck => rw [hc] at hb; exact hb.elim
theorem loop_vals {ws : List W} {g : MG} {body : MS} (I : Nat → Slo → Sto → Prop) (R : SO → Prop) {s : Slo} {st : Sto} (h0 : I 0 s st)
    (step : ∀ i w s st, ws[i]? = some w → I i s st → ∃ s1 st1, g w s st = some (s1, st1) ∧ Step (I (i + 1)) R (body s1 st1))
    (fin : ∀ s st, I ws.length s st → R (.nx s st)) :
    R (mLoop (.vals ws) g body ws.length 0 s st) := loop_vals_at I R step fin _ 0 s st (by omega) h0
/-- as an equation's left side: the loop ends well, and `I` holds there -/
theorem loop_nx {ws : List W} {g : MG} {body : MS} {n : Nat} (hn : ws.length = n) (I : Nat → Slo → Sto → Prop) {s : Slo} {st : Sto} (h0 : I 0 s st)
    (step : ∀ i w s st, ws[i]? = some w → I i s st → ∃ s1 st1, g w s st = some (s1, st1) ∧ ∃ s2 st2, (body s1 st1 = .nx s2 st2 ∨ body s1 st1 = .ct s2 st2) ∧ I (i + 1) s2 st2) :
    ∃ s2 st2, mLoop (.vals ws) g body n 0 s st = .nx s2 st2 ∧ I n s2 st2 := by
  subst hn
  refine loop_vals (R := fun o => ∃ s2 st2, o = .nx s2 st2 ∧ I ws.length s2 st2) I h0 (fun i w s st hw hi => ?_) (fun s st h => ⟨s, st, rfl, h⟩)
  obtain ⟨s1, st1, hg, s2, st2, hb, h2⟩ := step i w s st hw hi
  refine ⟨s1, st1, hg, ?_⟩
  rcases hb with hb | hb <;> rw [hb] <;> exact h2
theorem loop_st {ws : List W} {g : MG} {body : MS} {n : Nat} (hn : ws.length = n) (I : Nat → Slo → Sto → Prop) {s : Slo} {st : Sto} (h0 : I 0 s st)
    (step : ∀ i w s st, ws[i]? = some w → I i s st → ∃ s1 st1, g w s st = some (s1, st1) ∧ Step (I (i + 1)) (fun _ => False) (body s1 st1)) :
    ∃ s2 st2, mLoop (.vals ws) g body n 0 s st = .nx s2 st2 ∧ I n s2 st2 := by
  refine loop_nx hn I h0 fun i w s st hw hi => ?_
  obtain ⟨s1, st1, hg, hb⟩ := step i w s st hw hi
  refine ⟨s1, st1, hg, ?_⟩
  cases hc : body s1 st1 with
  | nx s2 st2 => rw [hc] at hb; exact ⟨s2, st2, .inl rfl, hb⟩
  | ct s2 st2 => rw [hc] at hb; exact ⟨s2, st2, .inr rfl, hb⟩
  | bk s2 st2 => rw [hc] at hb; exact hb.elim
  | rt w2 st2 => rw [hc] at hb; exact hb.elim
  | exc c fs st2 => rw [hc] at hb; exact hb.elim
  | stuck => rw [hc] at hb; exact hb.elim
@[simp] theorem Src.len_vals (ws : List W) : (Src.vals ws).len = ws.length := rfl
@[simp] theorem rngW_len (lo : Int) (n : Nat) : (rngW lo n).length = n := by simp [rngW]
theorem rngW_get {lo : Int} {n i : Nat} {w : W} (h : (rngW lo n)[i]? = some w) : i < n ∧ w = .int (lo + (i : Nat)) := by
  simp only [rngW, List.getElem?_map] at h
  rcases Nat.lt_or_ge i n with hi | hi
  · rw [List.getElem?_range hi] at h
    simp at h
    exact ⟨hi, h.symm⟩
  · rw [List.getElem?_eq_none (by simpa using hi)] at h
    simp at h
theorem rng0_get {n i : Nat} {w : W} (h : (rngW 0 n)[i]? = some w) : i < n ∧ w = .int (i : Nat) := by
  have h1 := rngW_get h
  rwa [Int.zero_add] at h1
/-- a walk that changes no store -/
theorem lc_vals_at {ws : List W} {g : MG} {t : MT} {e : ME} {s : Slo} {st : Sto} (p : W → Bool) (q : W → W)
    (h : ∀ w ∈ ws, ∃ s2, g w s st = some (s2, st) ∧ t s2 st = .ok (p w) st ∧ (p w = true → e s2 st = .ok (q w) st)) :
    ∀ (k i : Nat) (acc : List W), i + k = ws.length → acc.length + k ≤ sizeLine →
      mLcLoop (.vals ws) g t e s k i acc st = .ok (acc ++ ((ws.drop i).filter p).map q) st
  | 0, i, acc, e, hl => by
    have e' : i = ws.length := by omega
    subst e'
    simp [mLcLoop, Src.fine]
  | k + 1, i, acc, e, hl => by
    have hi : i < ws.length := by omega
    obtain ⟨s2, hg, ht, he⟩ := h ws[i] (List.getElem_mem hi)
    have hd := List.drop_eq_getElem_cons hi
    simp only [mLcLoop, Src.fine, if_true, Src.at, List.getElem?_eq_getElem hi, hg, ht]
    cases hp : p ws[i] with
    | true =>
      simp only [he hp]
      rw [if_pos (by omega), lc_vals_at p q h k (i + 1) _ (by omega) (by simp; omega)]
      rw [hd, List.filter_cons, hp]
      simp only [if_true, List.map_cons, List.append_assoc, List.singleton_append]
    | false =>
      simp only []
      rw [lc_vals_at p q h k (i + 1) _ (by omega) (by omega), hd, List.filter_cons, hp]
      simp only [Bool.false_eq_true, if_false]
theorem lc_vals {ws : List W} {g : MG} {t : MT} {e : ME} {s : Slo} {st : Sto} (p : W → Bool) (q : W → W) (hl : ws.length ≤ sizeLine)
    (h : ∀ w ∈ ws, ∃ s2, g w s st = some (s2, st) ∧ t s2 st = .ok (p w) st ∧ (p w = true → e s2 st = .ok (q w) st)) :
    mLcLoop (.vals ws) g t e s ws.length 0 [] st = .ok ((ws.filter p).map q) st := by
  rw [lc_vals_at p q h _ 0 [] (by omega) (by simpa using hl)]
  simp
/-- a call's good end -/
@[simp] def Out.post {α : Type} (o : Out α) (P : α → Sto → Prop) : Prop := match o with
  | .ok a st => P a st
  | _ => False
theorem Out.post.get {α : Type} {o : Out α} {P : α → Sto → Prop} (h : o.post P) : ∃ a st, o = .ok a st ∧ P a st := by
  cases o with
  | ok a st => exact ⟨a, st, rfl, h⟩
  | exc c fs st => exact h.elim
  | stuck => exact h.elim
theorem atI_nn {α : Type} {xs : List α} {k : Int} {w : α} (h0 : 0 ≤ k) (h : xs[k.toNat]? = some w) : atI xs k = some w := by
  have hl : k.toNat < xs.length := (List.getElem?_eq_some_iff.mp h).1
  have h2 : ixN xs.length k = some k.toNat := by
    simp only [ixN, if_pos h0]
    rw [if_pos (by omega)]
  rw [atI, h2]
  exact h
@[simp] theorem shaped_int (i : Int) : SeqAt.shaped (.int i) = true := rfl
@[simp] theorem shaped_str (x : Str) : SeqAt.shaped (.str x) = PyData.strOk x := by simp [SeqAt.shaped, PyData.canLay0, PyData.depth]
@[simp] theorem shaped_bool (x : Bool) : SeqAt.shaped (.bool x) = true := rfl
@[simp] theorem shaped_none : SeqAt.shaped .none = true := rfl
@[simp] theorem eqv_ii (i j : Int) : PyData.eqv (.int i) (.int j) = decide (i = j) := by by_cases h : i = j <;> simp [PyData.eqv, h]
@[simp] theorem eqv_ss (i j : Str) : PyData.eqv (.str i) (.str j) = decide (i = j) := by by_cases h : i = j <;> simp [PyData.eqv, h]
@[simp] theorem eqv_bb (i j : Bool) : PyData.eqv (.bool i) (.bool j) = decide (i = j) := by by_cases h : i = j <;> simp [PyData.eqv, h]
@[simp] theorem eqv_nn : PyData.eqv .none .none = true := by simp [PyData.eqv]
@[simp] theorem eqv_is (i : Int) (j : Str) : PyData.eqv (.int i) (.str j) = false := by simp [PyData.eqv]
@[simp] theorem eqv_si (i : Int) (j : Str) : PyData.eqv (.str j) (.int i) = false := by simp [PyData.eqv]
@[simp] theorem eqv_in (i : Int) : PyData.eqv (.int i) .none = false := by simp [PyData.eqv]
@[simp] theorem eqv_ni (i : Int) : PyData.eqv .none (.int i) = false := by simp [PyData.eqv]
@[simp] theorem eqv_sn (i : Str) : PyData.eqv (.str i) .none = false := by simp [PyData.eqv]
@[simp] theorem eqv_ns (i : Str) : PyData.eqv .none (.str i) = false := by simp [PyData.eqv]
@[simp] theorem shaped_list (ds : List PyData) : SeqAt.shaped (.list ds) = (PyData.canLayAll0 ds && decide (PyData.depthAll ds + 1 ≤ 64)) := by simp [SeqAt.shaped, PyData.canLay0, PyData.depth]
@[simp] theorem shaped_tuple (ds : List PyData) : SeqAt.shaped (.tuple ds) = (PyData.canLayAll0 ds && decide (PyData.depthAll ds + 1 ≤ 64)) := by simp [SeqAt.shaped, PyData.canLay0, PyData.depth]
@[simp] theorem lay_nil : PyData.canLayAll0 [] = true := by simp [PyData.canLayAll0]
@[simp] theorem lay_cons (d : PyData) (ds : List PyData) : PyData.canLayAll0 (d :: ds) = (d.canLay0 && PyData.canLayAll0 ds) := by simp [PyData.canLayAll0]
@[simp] theorem lay_int (i : Int) : PyData.canLay0 (.int i) = true := by simp [PyData.canLay0]
@[simp] theorem lay_str (i : Str) : PyData.canLay0 (.str i) = PyData.strOk i := by simp [PyData.canLay0]
@[simp] theorem lay_bool (i : Bool) : PyData.canLay0 (.bool i) = true := by simp [PyData.canLay0]
@[simp] theorem lay_none : PyData.canLay0 .none = true := by simp [PyData.canLay0]
@[simp] theorem lay_tuple (ds : List PyData) : PyData.canLay0 (.tuple ds) = PyData.canLayAll0 ds := by simp [PyData.canLay0]
@[simp] theorem lay_list (ds : List PyData) : PyData.canLay0 (.list ds) = PyData.canLayAll0 ds := by simp [PyData.canLay0]
@[simp] theorem dep_nil : PyData.depthAll [] = 0 := by simp [PyData.depthAll]
@[simp] theorem dep_cons (d : PyData) (ds : List PyData) : PyData.depthAll (d :: ds) = max d.depth (PyData.depthAll ds) := by simp [PyData.depthAll]
@[simp] theorem dep_int (i : Int) : PyData.depth (.int i) = 0 := by simp [PyData.depth]
@[simp] theorem dep_str (i : Str) : PyData.depth (.str i) = 0 := by simp [PyData.depth]
@[simp] theorem dep_bool (i : Bool) : PyData.depth (.bool i) = 0 := by simp [PyData.depth]
@[simp] theorem dep_none : PyData.depth .none = 0 := by simp [PyData.depth]
@[simp] theorem dep_tuple (ds : List PyData) : PyData.depth (.tuple ds) = PyData.depthAll ds + 1 := by simp [PyData.depth]
@[simp] theorem dep_list (ds : List PyData) : PyData.depth (.list ds) = PyData.depthAll ds + 1 := by simp [PyData.depth]
@[simp] theorem eqv_ll (i j : List PyData) : PyData.eqv (.list i) (.list j) = PyData.eqvAll i j := by simp [PyData.eqv]
@[simp] theorem eqv_tt (i j : List PyData) : PyData.eqv (.tuple i) (.tuple j) = PyData.eqvAll i j := by simp [PyData.eqv]
@[simp] theorem eqvA_nn : PyData.eqvAll [] [] = true := by simp [PyData.eqvAll]
@[simp] theorem eqvA_cc (x y : PyData) (xs ys : List PyData) : PyData.eqvAll (x :: xs) (y :: ys) = (PyData.eqv x y && PyData.eqvAll xs ys) := by simp [PyData.eqvAll]
@[simp] theorem eqvA_nc (y : PyData) (ys : List PyData) : PyData.eqvAll [] (y :: ys) = false := by simp [PyData.eqvAll]
@[simp] theorem eqvA_cn (y : PyData) (ys : List PyData) : PyData.eqvAll (y :: ys) [] = false := by simp [PyData.eqvAll]
@[simp] theorem kit_NoneType_bool : kitB "NoneType" "bool" = some false := rfl
@[simp] theorem kit_NoneType_int : kitB "NoneType" "int" = some false := rfl
@[simp] theorem kit_NoneType_str : kitB "NoneType" "str" = some false := rfl
@[simp] theorem kit_NoneType_tuple : kitB "NoneType" "tuple" = some false := rfl
@[simp] theorem kit_NoneType_list : kitB "NoneType" "list" = some false := rfl
@[simp] theorem kit_NoneType_dict : kitB "NoneType" "dict" = some false := rfl
@[simp] theorem kit_bool_bool : kitB "bool" "bool" = some true := rfl
@[simp] theorem kit_bool_int : kitB "bool" "int" = some true := rfl
@[simp] theorem kit_bool_str : kitB "bool" "str" = some false := rfl
@[simp] theorem kit_bool_tuple : kitB "bool" "tuple" = some false := rfl
@[simp] theorem kit_bool_list : kitB "bool" "list" = some false := rfl
@[simp] theorem kit_bool_dict : kitB "bool" "dict" = some false := rfl
@[simp] theorem kit_int_bool : kitB "int" "bool" = some false := rfl
@[simp] theorem kit_int_int : kitB "int" "int" = some true := rfl
@[simp] theorem kit_int_str : kitB "int" "str" = some false := rfl
@[simp] theorem kit_int_tuple : kitB "int" "tuple" = some false := rfl
@[simp] theorem kit_int_list : kitB "int" "list" = some false := rfl
@[simp] theorem kit_int_dict : kitB "int" "dict" = some false := rfl
@[simp] theorem kit_str_bool : kitB "str" "bool" = some false := rfl
@[simp] theorem kit_str_int : kitB "str" "int" = some false := rfl
@[simp] theorem kit_str_str : kitB "str" "str" = some true := rfl
@[simp] theorem kit_str_tuple : kitB "str" "tuple" = some false := rfl
@[simp] theorem kit_str_list : kitB "str" "list" = some false := rfl
@[simp] theorem kit_str_dict : kitB "str" "dict" = some false := rfl
@[simp] theorem kit_tuple_bool : kitB "tuple" "bool" = some false := rfl
@[simp] theorem kit_tuple_int : kitB "tuple" "int" = some false := rfl
@[simp] theorem kit_tuple_str : kitB "tuple" "str" = some false := rfl
@[simp] theorem kit_tuple_tuple : kitB "tuple" "tuple" = some true := rfl
@[simp] theorem kit_tuple_list : kitB "tuple" "list" = some false := rfl
@[simp] theorem kit_tuple_dict : kitB "tuple" "dict" = some false := rfl
@[simp] theorem kit_list_bool : kitB "list" "bool" = some false := rfl
@[simp] theorem kit_list_int : kitB "list" "int" = some false := rfl
@[simp] theorem kit_list_str : kitB "list" "str" = some false := rfl
@[simp] theorem kit_list_tuple : kitB "list" "tuple" = some false := rfl
@[simp] theorem kit_list_list : kitB "list" "list" = some true := rfl
@[simp] theorem kit_list_dict : kitB "list" "dict" = some false := rfl
@[simp] theorem kit_dict_bool : kitB "dict" "bool" = some false := rfl
@[simp] theorem kit_dict_int : kitB "dict" "int" = some false := rfl
@[simp] theorem kit_dict_str : kitB "dict" "str" = some false := rfl
@[simp] theorem kit_dict_tuple : kitB "dict" "tuple" = some false := rfl
@[simp] theorem kit_dict_list : kitB "dict" "list" = some false := rfl
@[simp] theorem kit_dict_dict : kitB "dict" "dict" = some true := rfl
@[simp] theorem ofString_iff (a b : String) : Str.ofString a = Str.ofString b ↔ a = b := by
  constructor
  · intro h
    rw [Str.ofString_eq_toList, Str.ofString_eq_toList, Str.mk.injEq] at h
    have h1 : a.toList.map Char.toNat = b.toList.map Char.toNat := by simpa using h
    have h2 : a.toList = b.toList := List.map_inj_right (fun x y e => Char.toNat_inj.mp e) |>.mp h1
    exact String.toList_inj.mp h2
  · exact congrArg _
@[simp] theorem strOk_lit (a : String) : PyData.strOk (Str.ofString a) = true := by
  rw [Str.ofString_eq_toList]
  simp only [PyData.strOk]
  rw [Array.all_eq_true_iff_forall_mem]
  intro c hc
  simp at hc
  obtain ⟨x, hx, rfl⟩ := hc
  have h : x.val.toNat.isValidChar := x.valid
  have e : x.toNat = x.val.toNat := rfl
  rcases h with h | h
  · simp only [e, decide_eq_true_eq]; omega
  · simp only [e, decide_eq_true_eq]; omega
@[simp] theorem length_lit (a : String) : (Str.ofString a).length = a.length := by
  rw [Str.ofString_eq_toList]
  simp [Str.length, ← String.length_toList]
@[simp] theorem eqV_ss (i j : Str) : eqV (.str i) (.str j) = decide (i = j) := by by_cases h : i = j <;> simp [eqV, h]
@[simp] theorem eqV_ii (i j : Int) : eqV (.int i) (.int j) = decide (i = j) := by by_cases h : i = j <;> simp [eqV, h]
@[simp] theorem eqV_si (i : Str) (j : Int) : eqV (.str i) (.int j) = false := rfl
@[simp] theorem eqV_is (i : Str) (j : Int) : eqV (.int j) (.str i) = false := rfl
@[simp] theorem eqV_sn (i : Str) : eqV (.str i) .non = false := rfl
@[simp] theorem eqV_ns (i : Str) : eqV .non (.str i) = false := rfl
@[simp] theorem eqV_in (i : Int) : eqV (.int i) .non = false := rfl
@[simp] theorem eqV_ni (i : Int) : eqV .non (.int i) = false := rfl
@[simp] theorem eqV_nn : eqV .non .non = true := rfl
@[simp] theorem inV_nil (x : V) : inV x [] = false := rfl
@[simp] theorem inV_cons (x y : V) (ys : List V) : inV x (y :: ys) = (eqV y x || inV x ys) := rfl
@[simp] theorem toPys_ints : ∀ ns : List Int, toPys (ns.map W.int) = some (ns.map PyData.int)
  | [] => rfl
  | n :: ns => by simp [toPys, toPys_ints ns]
end Mi
/-! The mirror layer, part G: lists made into objects of the store, the methods of lists and tuples. -/
namespace Mi
open PySem L2
@[simp] def mListOfS : List W → Sto → Out W := fun xs st => match xs with
  | [.tup ws] => .ok (.ref st.length) (st ++ [.lst ws])
  | [x] => match asL x st with
    | some ws => .ok (.ref st.length) (st ++ [.lst ws])
    | none => .stuck
  | _ => .stuck
@[simp] def mAddS : M2 := fun x y st => match asLM x st, asLM y st with
  | some a, some b => if a.length + b.length ≤ sizeLine then .ok (.ref st.length) (st ++ [.lst (a ++ b)]) else .stuck
  | _, _ => .stuck
@[simp] def mLM (m : W → List W → Sto → Out W) (o : ME) (a : MA) : ME := fun s st => (o s st).bind fun x st1 => match asL x st1 with
  | some _ => (a s st1).bind fun xs st2 => m x xs st2
  | none => .stuck
def SMt (K : PySem.W.Frag) (Cl : Nat → Addr) (E : XK) (r : V → List V → Hp → VK → Prop) (m : W → List W → Sto → Out W) : Prop :=
  ∀ β H st x xs v vs Q, HR K Cl β H st → RV K β H x v → RVs K β H xs vs → Po K Cl E β H Q (m x xs st) → r v vs H Q
@[simp] def mApp : W → List W → Sto → Out W := fun x xs st => match x, xs with
  | .ref i, [y] => match st[i]? with
    | some (.lst ws) => if ws.length < sizeLine then .ok .non (st.set i (.lst (ws ++ [y]))) else .stuck
    | _ => .stuck
  | _, _ => .stuck
@[simp] def mIndex : W → List W → Sto → Out W := fun x xs st => match xs with
  | [y] => match asL x st with
    | some ws => if flatW y = true ∧ ws.all flatW = true then match ws.findIdx? (fun z => eqV (toV z) (toV y)) with
        | some j => .ok (.int (j : Nat)) st
        | none => .stuck
      else .stuck
    | none => .stuck
  | _ => .stuck
@[simp] def mTix (zs : List Str) (a : ME) : ME := fun s st => (a s st).bind fun y st1 => match y with
  | .str z => match zs.findIdx? (fun x => decide (x = z)) with
    | some j => .ok (.int (j : Nat)) st1
    | none => .stuck
  | _ => .stuck
/-- a tuple of texts of the module's top -/
structure GTp (K : PySem.W.Frag) (mg : Str → Option Value) (x : Str) (zs : List Str) : Prop where
  ex : ∃ (p : Addr) (o : Obj) (its : Array Value) (n : Nat), mg x = some (.ref p) ∧ K.lookup p = some o ∧ o.cls = .type "tuple" ∧ o.dict = none ∧ o.data = .seq its n ∧ its.size ≤ sizeLine ∧ Vals (zs.map V.str) its.toList
section
variable {X : Cx} {Cl : Nat → Addr} {E : XK}
theorem c_listS : CallR X (.type "list") (fun xs H Q => ∃ p ys, xs = [.ref p] ∧ (SqL X.K H p ys ∨ SqT X.K H p ys) ∧ ∀ l, H l = none → Q (.ref l) (upd H l (.lst ys))) ∧
    SCal X.K Cl E (fun xs H Q => ∃ p ys, xs = [.ref p] ∧ (SqL X.K H p ys ∨ SqT X.K H p ys) ∧ ∀ l, H l = none → Q (.ref l) (upd H l (.lst ys))) mListOfS := by
  refine ⟨call_list_of, fun β H st xs vs Q hr r h => ?_⟩
  unfold mListOfS at h
  split at h
  · obtain ⟨v, rfl, rv⟩ := r.one
    cases rv with
    | tup h1 r1 => exact ⟨_, _, rfl, .inr h1, fun l hl => Po.lstS h hr hl r1⟩
  · split at h
    · rename_i ws el
      obtain ⟨v, rfl, rv⟩ := r.one
      obtain ⟨p, vs, rfl, h1, r1⟩ := asL_ok hr rv el
      exact ⟨_, _, rfl, .inl h1, fun l hl => Po.lstS h hr hl r1⟩
    · exact h.elim
  · exact h.elim
theorem o_addS : OpR X (binaryOp .Add) rCat ∧ SOp X.K Cl E rCat mAddS := by
  refine ⟨op_cat, fun β H st x y v u Q hr rx ry h => ?_⟩
  unfold mAddS at h
  split at h
  · split at h
    · rename_i e1 e2 hz
      obtain ⟨p, vs, rfl, h1, r1⟩ := asLM_ok hr rx e1
      obtain ⟨q, us, rfl, h2, r2⟩ := asLM_ok hr ry e2
      exact ⟨p, q, vs, us, rfl, rfl, h1, h2, by rw [← r1.length, ← r2.length]; exact hz, fun l hl => Po.lstS h hr hl (r1.append r2)⟩
    · exact h.elim
  · exact h.elim
theorem m_app : MtR X "list.append" rAppend ∧ SMt X.K Cl E rAppend mApp := by
  refine ⟨mt_append, fun β H st x xs v vs Q hr rx rs h => ?_⟩
  unfold mApp at h
  split at h
  · split at h
    · rename_i ws es
      split at h
      · rename_i hz
        obtain ⟨a, rfl, hb, us, hv, hrs⟩ := rx.atRef hr es (by intro z; cases z)
        obtain ⟨u, rfl, ru⟩ := rs.one
        have em : Ext X.K β H β (upd H a (.lst (us ++ [u]))) := Ext.mut hr hb hv trivial
        refine ⟨a, us, u, rfl, rfl, hv, by rw [← hrs.length]; exact hz, h β _ .non em (hr.mut hb hv trivial ⟨_, upd_same, (hrs.append (.cons ru .nil)).ext em⟩) .non⟩
      · exact h.elim
    · exact h.elim
  · exact h.elim
theorem m_index : MtR X "list.index" (rIndex X.K) ∧ SMt X.K Cl E (rIndex X.K) mIndex := by
  refine ⟨mt_index, fun β H st x xs v vs Q hr rx rs h => ?_⟩
  unfold mIndex at h
  split at h
  · split at h
    · rename_i ws el
      split at h
      · rename_i hf
        split at h
        · rename_i j hj
          obtain ⟨u, rfl, ru⟩ := rs.one
          obtain ⟨p, us, rfl, h1, r1⟩ := asL_ok hr rx el
          obtain ⟨rfl, fu⟩ := flat_v ru hf.1
          obtain ⟨rfl, fus⟩ := flat_vs r1 hf.2
          obtain ⟨hl, he, hn⟩ := List.findIdx?_eq_some_iff_getElem.mp hj
          refine ⟨p, _, _, j, toV ws[j], rfl, rfl, h1, fu, fus, by simp [hl], he, fun m z hm hz => ?_, PoG.val h hr (.int _)⟩
          rw [List.getElem?_map, List.getElem?_eq_getElem (by omega)] at hz
          cases hz
          have := hn m hm
          simpa using this
        · exact h.elim
      · exact h.elim
    · exact h.elim
  · exact h.elim
theorem je_lm {o e : Expr} {es : List Expr} {name : Str} {id : String} {apos cpos : Pos} {r : V → List V → Hp → VK → Prop} {m : W → List W → Sto → Out W} {mo : ME} {mr : MA} (slot : Slot "list" name id) (hty : typeOf (.builtin id) = pure (.type "method_descriptor")) (hm : MtR X id r ∧ SMt X.K Cl E r m)
    (ho : JE X Cl E o mo) (ha : JA X Cl E (e :: es) mr)
    (hbase : attributeBase o name X.env (eval o X.env) = eval o X.env := by rfl)
    (hfew : ((backTo cpos (starEach (e :: es) X.env)).all (fun x => !x.1) && (backToKw cpos (keywordEach [] X.env)).all (fun x => x.1.isSome) && decide ((e :: es).length + ([] : List Keyword).length + (if ([] : List Keyword).isEmpty then 0 else 1) < 30)) = true := by rfl)
    (hline : (apos.endLine == cpos.line) = true := by rfl) (hs : starEach (e :: es) X.env = (false, eval e X.env) :: starEach es X.env := by rfl) (hplain : (backTo cpos (starEach es X.env)).any (·.1) = false := by rfl) :
    JE X Cl E (.Call (.Attribute o name apos) (e :: es) [] cpos) (mLM m mo mr) := by
  obtain ⟨_, p1, q1⟩ := ho.ex
  obtain ⟨_, p2, q2⟩ := ha.ex
  refine ⟨_, pe_bm F.plainAttrs_list slot hty hm.1 p1 p2 hbase hfew hline hs hplain, fun β H σ s st Q hr hs h => q1 β H σ s st _ hr hs (h.bind fun x st1 β1 H1 v _ e1 hr1 rx h1 => ?_)⟩
  split at h1
  · rename_i ws el
    obtain ⟨p, us, rfl, h2, r1⟩ := asL_ok hr1 rx el
    exact ⟨.inl ⟨rfl, _, h2⟩, q2 β1 H1 σ s st1 _ hr1 (hs.ext e1) (h1.bind fun xs st2 β2 H2 vs _ e2 hr2 rs h3 => hm.2 β2 H2 st2 x xs _ vs Q hr2 (rx.ext e2) rs h3)⟩
  · exact h1.elim
/-- T.index(e), T a tuple of texts of the module's top -/
theorem je_tix {x : Str} {zs : List Str} {e : Expr} {p apos cpos : Pos} {ma : ME} (g : GTp X.K X.mg x zs) (ha : JE X Cl E e ma) (hg : Gl X x := by rfl) (hd : (x == ("__debug__" : Str)) = false := by decide)
    (hbase : attributeBase (.Name x p) "index" X.env (eval (.Name x p) X.env) = eval (.Name x p) X.env := by rfl)
    (hfew : ((backTo cpos (starEach [e] X.env)).all (fun x => !x.1) && (backToKw cpos (keywordEach [] X.env)).all (fun x => x.1.isSome) && decide ([e].length + ([] : List Keyword).length + (if ([] : List Keyword).isEmpty then 0 else 1) < 30)) = true := by rfl)
    (hline : (apos.endLine == cpos.line) = true := by rfl) (hs : starEach [e] X.env = (false, eval e X.env) :: starEach [] X.env := by rfl) (hplain : (backTo cpos (starEach [] X.env)).any (·.1) = false := by rfl) :
    JE X Cl E (.Call (.Attribute (.Name x p) "index" apos) [e] [] cpos) (mTix zs ma) := by
  obtain ⟨_, p1, q1⟩ := ha.ex
  obtain ⟨a, o, its, n, hm, hk, hc, hdd, hdt, hz, hv⟩ := g.ex
  refine ⟨_, pe_bm F.plainAttrs_tuple F.slot_tuple_index F.type_tuple_index mt_tup_index (pe_glob (v := .ref a) hg hm rfl hd) (pa_cons p1 pa_nil hs) hbase hfew hline hs hplain, fun β H σ s st Q hr hs h => ?_⟩
  refine ⟨.inr (.inl ⟨rfl, o, hk, hc, hdd⟩), q1 β H σ s st _ hr hs (h.bind fun y st1 β1 H1 v _ e1 hr1 ry h1 => ?_)⟩
  cases y with
  | str z =>
    simp only at h1
    split at h1
    · rename_i j hj
      cases ry
      obtain ⟨hl, he, hn⟩ := List.findIdx?_eq_some_iff_getElem.mp hj
      refine ⟨a, zs, z, j, rfl, rfl, .inr ⟨o, its, n, hk, hc, hdt, hz, hv⟩, ?_, fun m hm2 hz2 => ?_, PoG.val h1 hr1 (.int _)⟩
      · rw [List.getElem?_eq_getElem hl]
        simpa using he
      · obtain ⟨hl2, e2⟩ := List.getElem?_eq_some_iff.mp hz2
        have := hn m hm2
        rw [e2] at this
        simp at this
    · exact h1.elim
  | _ => exact h1.elim
/-- o.f as a target -/
def gFld (K : PySem.W.Frag) (to : TE) (f : Str) : TG := fun y σ H Q => to σ H fun x H2 => ∃ a C dx fs, x = .ref a ∧ H2 a = some (.ins C dx fs) ∧ Cls K C ∧ NoAttr K C f ∧ fs.length < 1000 ∧ Q σ (upd H2 a (.ins C dx (putF f y fs)))
theorem pg_fld {o : Expr} {to : TE} {f : Str} {pos : Pos} (ho : PE X o to)
    : PG X (.Attribute o f pos) (gFld X.K to f) := by
  refine ⟨fun pins s σ H v u Q I r h => ?_⟩
  rw [assign_Attribute]
  refine wpAny_bind (wpAny_holding (thn (ho.run pins s σ H _ I h) fun ov s1 ⟨x, H1, I1, r1, a, C, dx, fs, ex, ea, c, n, l, q1⟩ => ?_))
  subst ex
  obtain rfl : ov = Value.ref a := r1
  refine wpAny_bind (wpAny_standAt (wpAny_bind (wpAny_holding ?_)))
  exact setattr_ok I1 ea c n l r fun s3 I3 => wpAny_release ⟨σ, _, I3, q1⟩
theorem jg_fld {o : Expr} {ma : ME} {c : Nat} {f : Str} {pos : Pos} (hc : Cls X.K (Cl c)) (hn : NoAttr X.K (Cl c) f) (ho : JE X Cl E o ma) : JG X Cl (.Attribute o f pos) (mGFld c f ma) := by
  obtain ⟨_, p1, q1⟩ := ho.ex
  refine ⟨_, pg_fld p1, fun β H σ s st w v Q hr hs rw h => q1 β H σ s st _ hr hs ?_⟩
  unfold mGFld at h
  cases e1 : ma s st with
  | exc c fs x => rw [e1] at h; exact h.elim
  | stuck => rw [e1] at h; exact h.elim
  | ok x st1 =>
    rw [e1] at h
    intro β1 H1 v1 x1 hr1 rx
    simp only at h
    split at h
    · rename_i r
      split at h
      · rename_i d fs es
        split at h
        · rename_i hd
          obtain ⟨rfl, hl⟩ := hd
          obtain ⟨a, rfl, hb, dx, gs, hv, hrs⟩ := rx.atRef hr1 es (by intro z; cases z)
          have em : Ext X.K β1 H1 β1 (upd H1 a (.ins (Cl d) dx (putF f v gs))) := Ext.mut hr1 hb hv trivial
          exact ⟨a, _, dx, gs, rfl, hv, hc, hn, by rw [← hrs.length]; exact hl, h β1 _ σ (x1.trans em) (hr1.mut hb hv trivial ⟨dx, _, upd_same, (putW_ok (rw.ext x1) hrs).ext em⟩) ((hs.ext x1).ext em)⟩
        · exact h.elim
      · exact h.elim
    · exact h.elim
/-- range(i, j, c) -/
@[simp] def mIRngC (a : MA) : MI := fun s st => (a s st).bind fun xs st1 => match xs with
  | [.int i, .int j, .int c] => if c ≠ 0 ∧ c.natAbs < 1073741824 ∧ Builtin.Range.small i j c = true ∧ 0 ≤ Builtin.Range.rangeSize i j c then .ok (.vals ((List.range (Builtin.Range.rangeSize i j c).toNat).map fun k => .int (i + (k : Nat) * c))) st1 else .stuck
  | _ => .stuck
theorem vals_three {K : PySem.W.Frag} {β : Bt} {H : Hp} {a b c : W} {vs : List V} (r : RVs K β H [a, b, c] vs) : ∃ x y z, vs = [x, y, z] ∧ RV K β H a x ∧ RV K β H b y ∧ RV K β H c z := by
  cases r with
  | cons r1 r => cases r with
    | cons r2 r => cases r with
      | cons r3 r => cases r; exact ⟨_, _, _, rfl, r1, r2, r3⟩
theorem ji_rngC {tg a b c : Expr} {p pos : Pos} {mr : MA} (hm : X.mg "range" = none) (ha : JA X Cl E [a, b, c] mr) (hg : Gl X "range" := by rfl)
    (hs : starEach [a, b, c] X.env = (false, eval a X.env) :: starEach [b, c] X.env := by rfl) (hpl : (backTo pos (starEach [b, c] X.env)).any (·.1) = false := by rfl) : JI X Cl E tg (.Call (.Name "range" p) [a, b, c] [] pos) (mIRngC mr) := by
  obtain ⟨t, pr, q⟩ := ha.ex
  refine ⟨_, pi_range3 hg hm pr hs hpl, fun β H σ s st R hr hs h => q β H σ s st _ hr hs (Out.bindI h fun x st1 β1 H1 v _ e1 hr1 rx h1 => ?_)⟩
  split at h1
  · split at h1
    · rename_i hz
      obtain ⟨u, w, y, rfl, ru, rw', ry⟩ := vals_three rx
      cases ru; cases rw'; cases ry
      exact ⟨_, _, _, _, rfl, ⟨hz.1, hz.2.1, hz.2.2.1, by have := hz.2.2.2; omega⟩, h1 β1 H1 _ (Ext.refl _ _ _) hr1 walkS_rngC⟩
    · exact h1.elim
  · exact h1.elim
/-- a statement that is never come to -/
@[simp] def mDead : MS := fun _ _ => .stuck
theorem js_dead {x : Stmt} : JS X Cl E x mDead := ⟨fun _ _ _ => False, ⟨fun _ _ _ _ _ _ h => h.elim⟩, fun _ _ _ _ _ _ _ _ h => h⟩
end
end Mi
/-! The mirror layer, part H: all, any, sum. -/
namespace Mi
open PySem L2
@[simp] def boolsW : List W → Option (List Bool)
  | [] => some []
  | .bl b :: ws => (boolsW ws).map (b :: ·)
  | _ => none
@[simp] def intsW : List W → Option (List Int)
  | [] => some []
  | .int b :: ws => (intsW ws).map (b :: ·)
  | _ => none
@[simp] def mAll : List W → Sto → Out W := fun xs st => match xs with
  | [x] => match asL x st with
    | some ws => match boolsW ws with
      | some bs => .ok (.bl (bs.all id)) st
      | none => .stuck
    | none => .stuck
  | _ => .stuck
@[simp] def mAny : List W → Sto → Out W := fun xs st => match xs with
  | [x] => match asL x st with
    | some ws => match boolsW ws with
      | some bs => .ok (.bl (bs.any id)) st
      | none => .stuck
    | none => .stuck
  | _ => .stuck
@[simp] def mSum : List W → Sto → Out W := fun xs st => match xs with
  | [x] => match asL x st with
    | some ws => match intsW ws with
      | some bs => .ok (.int bs.sum) st
      | none => .stuck
    | none => .stuck
  | _ => .stuck
section
variable {K : PySem.W.Frag} {β : Bt} {H : Hp}
theorem boolsW_ok : ∀ {ws : List W} {vs : List V} {bs : List Bool}, RVs K β H ws vs → boolsW ws = some bs → vs = bs.map V.bl
  | _, _, _, .nil, h => by cases h; rfl
  | _, _, _, .cons (w := w) (ws := ws) r rr, h => by
    cases w with
    | bl b =>
      simp only [boolsW, Option.map_eq_some_iff] at h
      obtain ⟨cs, h1, rfl⟩ := h
      cases r
      rw [boolsW_ok rr h1]; rfl
    | _ => cases h
theorem intsW_ok : ∀ {ws : List W} {vs : List V} {bs : List Int}, RVs K β H ws vs → intsW ws = some bs → vs = bs.map V.int
  | _, _, _, .nil, h => by cases h; rfl
  | _, _, _, .cons (w := w) (ws := ws) r rr, h => by
    cases w with
    | int b =>
      simp only [intsW, Option.map_eq_some_iff] at h
      obtain ⟨cs, h1, rfl⟩ := h
      cases r
      rw [intsW_ok rr h1]; rfl
    | _ => cases h
end
section
variable {X : Cx} {Cl : Nat → Addr} {E : XK}
theorem c_all (hc : X.calm = true) : CallR X (.builtin "all") (rAll X.K) ∧ SCal X.K Cl E (rAll X.K) mAll := by
  refine ⟨cr_all hc, fun β H st xs vs Q hr r h => ?_⟩
  unfold mAll at h
  split at h
  · split at h
    · rename_i ws el
      split at h
      · rename_i bs hb
        obtain ⟨v, rfl, rv⟩ := r.one
        obtain ⟨p, us, rfl, h1, r1⟩ := asL_ok hr rv el
        have e := boolsW_ok r1 hb
        subst e
        exact ⟨p, bs, rfl, h1, PoG.val h hr (.bl _)⟩
      · exact h.elim
    · exact h.elim
  · exact h.elim
theorem c_any (hc : X.calm = true) : CallR X (.builtin "any") (rAny X.K) ∧ SCal X.K Cl E (rAny X.K) mAny := by
  refine ⟨cr_any hc, fun β H st xs vs Q hr r h => ?_⟩
  unfold mAny at h
  split at h
  · split at h
    · rename_i ws el
      split at h
      · rename_i bs hb
        obtain ⟨v, rfl, rv⟩ := r.one
        obtain ⟨p, us, rfl, h1, r1⟩ := asL_ok hr rv el
        have e := boolsW_ok r1 hb
        subst e
        exact ⟨p, bs, rfl, h1, PoG.val h hr (.bl _)⟩
      · exact h.elim
    · exact h.elim
  · exact h.elim
theorem c_sum (hc : X.calm = true) : CallR X (.builtin "sum") (rSum X.K) ∧ SCal X.K Cl E (rSum X.K) mSum := by
  refine ⟨cr_sum hc, fun β H st xs vs Q hr r h => ?_⟩
  unfold mSum at h
  split at h
  · split at h
    · rename_i ws el
      split at h
      · rename_i bs hb
        obtain ⟨v, rfl, rv⟩ := r.one
        obtain ⟨p, us, rfl, h1, r1⟩ := asL_ok hr rv el
        have e := intsW_ok r1 hb
        subst e
        exact ⟨p, bs, rfl, h1, PoG.val h hr (.int _)⟩
      · exact h.elim
    · exact h.elim
  · exact h.elim
end
section
variable {X : Cx} {Cl : Nat → Addr} {E : XK}
/-- statements that are never come to -/
theorem jss_dead {x : List Stmt} : JSs X Cl E x mDead := ⟨fun _ _ _ => False, ⟨fun _ _ _ _ _ _ h => h.elim⟩, fun _ _ _ _ _ _ _ _ h => h⟩
end
end Mi
/-! The mirror layer, part I: enumerate over a list or a tuple. -/
namespace Mi
open PySem L2
theorem meets_enum1 {v : Value} {o : Obj} {H : Heap → Prop} (B : Begins v o H) :
    Meets (Builtin.«enumerate.__new__» ⟨[.type "enumerate", v], []⟩) (fun _ R s => H s.heap ∧
      R (.ok (.ret (.ref (s.heap.push o).objs.size))) { s with heap := (s.heap.push o).push { cls := .type "enumerate", data := .fields #[.none, .bool false, .ref s.heap.objs.size, rawInt 0, .none, .none] } }) :=
  .of_wp fun prog w A R s h => by
    obtain ⟨hp, g, d, tk, os⟩ := s; obtain ⟨h1, h⟩ := h
    have hsub := sub_enumerate
    have q1 : ∀ {A' : Around} {E : Value → Shared → Prop} {Q : Value → Shared → Prop}, Q (.ref hp.objs.size) ⟨hp.push o, g, d, tk, os⟩ → wpAny (model prog w) A' (pyIter v) Q E ⟨hp, g, d, tk, os⟩ :=
      fun q => B.iter prog w _ _ ⟨hp, g, d, tk, os⟩ _ h1 q
    wp_walk using q1
    refine wpAny_stack_any fun st => wpAny_pure ?_
    split
    · rename_i c _ _ _ _ _
      cases (c == Value.type "enumerate")
      · wp_walk using q1
        exact ⟨_, rfl, h⟩
      · wp_walk using q1
        exact ⟨_, rfl, h⟩
    · wp_walk using q1
      exact ⟨_, rfl, h⟩
section
variable {prog : Program} {w : World} {A : Around} {E : Value → Shared → Prop} {s : Shared}
theorem enum_begins1 {v : Value} {o : Obj} {H : Heap → Prop} {Q : Value → Shared → Prop} (B : Begins v o H) (h1 : H s.heap)
    (h : ∀ h', IsEnum h' (s.heap.objs.size + 1) s.heap.objs.size 0 .none → h'.get? s.heap.objs.size = some o → h'.objs.size = s.heap.objs.size + 2 →
      (∀ b o, s.heap.get? b = some o → h'.get? b = some o) → Q (.ref (s.heap.objs.size + 1)) { s with heap := h' }) :
    wpAny (model prog w) A (call (.type "enumerate") [v]) Q E s := by
  refine callType_new F.called_enumerate (by decide) (F.typeCall_enumerate_1 _) (F.newCall_enumerate_1 _) (fun obj => F.args_object_init_2 obj _) F.entry_enumerate_new
    (meets_enum1 B) ⟨h1, ?_⟩
  have hz : (s.heap.push o).objs.size = s.heap.objs.size + 1 := Heap.size_push ..
  show _ ∧ _
  rw [hz]
  have he : IsEnum ((s.heap.push o).push
      { cls := .type "enumerate", data := .fields #[.none, .bool false, .ref s.heap.objs.size, rawInt 0, .none, .none] }) (s.heap.objs.size + 1) s.heap.objs.size 0 .none := by
    have := Heap.get?_push_size (s.heap.push o)
      (o := { cls := .type "enumerate", data := .fields #[.none, .bool false, .ref s.heap.objs.size, rawInt 0, .none, .none] }) rfl
    rw [hz] at this; exact this
  exact ⟨⟨_, he, rfl⟩, h _ he (Heap.get?_push_of_some _ (Heap.get?_push_size _ B.free)) (by rw [Heap.size_push, hz]) fun b o x => Heap.get?_push_of_some _ (Heap.get?_push_of_some _ x)⟩
end
/-- the tuple at a, the items in new pairs -/
def IteT (K : PySem.W.Frag) (a : Addr) : It :=
  ⟨fun i H => ∃ (xs : List V) (x : V), SqT K H a xs ∧ xs[i]? = some x, fun i H v H' => ∃ T x, v = .ref T ∧ H T = none ∧ H' = upd H T (.tup [.int (i : Nat), x]) ∧ ∀ xs, SqT K H a xs → xs[i]? = some x, fun i H => ∃ xs : List V, SqT K H a xs ∧ xs.length ≤ i⟩
theorem turn_enumT {P : Program} {w : World} {K : PySem.W.Frag} {elts : List Expr} {kk : Nat} {tpos : Pos} (a e it : Addr) (hat : a ≠ it) (hae : a ≠ e) :
    Turn P w K (.Tuple elts kk tpos) (IteT K a) [e, it] e (fun i h => (∃ old, IsEnum h e it ((i : Nat) : Int) old) ∧ h.IsTupleIter it a i ∧ e ≠ it) where
  mem := by simp
  obj := fun i h st b hb => by
    obtain ⟨⟨old, he⟩, ⟨o, ho, hc, hd⟩, _⟩ := st
    have e' : b = e ∨ b = it := by simpa using hb
    rcases e' with z | z
    · rw [z]; exact ⟨_, he, fun v q => nomatch q⟩
    · rw [z]; exact ⟨o, ho, fun v q => by rw [hd] at q; cases q⟩
  keep := fun i h h' st k => let ⟨⟨old, he⟩, hi, hne⟩ := st; ⟨⟨old, k e (by simp) _ he⟩, hi.at fun o q => k it (by simp) o q, hne⟩
  item := by
    intro X hP hw hK hc i pins s σ H E I hf st hg
    subst hP hw hK
    obtain ⟨⟨old, he⟩, hit, hne⟩ := st
    obtain ⟨xs, x, hq, hx⟩ := hg
    obtain ⟨its, rv, p, hz⟩ := I.tuple hq
    obtain ⟨u, hu, ru⟩ := rv.get hx
    have hel : e < s.heap.objs.size := Heap.lt_size he
    have hil : it < s.heap.objs.size := by obtain ⟨_, q, _⟩ := hit; exact Heap.lt_size q
    have hi' : i < its.toArray.size := by
      have := (List.getElem?_eq_some_iff.mp hu).1
      simpa using this
    refine wpAny_pyNext_enum_itemD (Draws.tuple (show X.A.in1.handled = none from I.ok.hd hc) it a hat its.toArray) he ⟨hit, show s.heap.IsTuple a its.toArray from p⟩ hi' hne (by simp [hne, Ne.symm hae]) fun y h' tk hy ho hit' hT hsz hk => ?_
    have hyu : y = u := by
      have z : its[i]? = some y := by simpa using hy
      rw [hu] at z
      exact (Option.some.inj z).symm
    subst hyu
    refine ⟨_, rfl, wpAny_letOwnedTupleGo_enum (s := { s with heap := h', toks := tk + 1 }) ho fun h'' he' sb => ?_⟩
    have hT2 : h''.get? s.heap.objs.size = some { cls := .type "tuple", data := .seq #[.int i tk, y] } := (sb.2 _ (Nat.ne_of_gt hel)).trans hT
    have new : ObjOk X.prog X.w (upd H s.heap.objs.size (.tup [.int (i : Nat), x])) h'' s.heap.objs.size (.tup [.int (i : Nat), x]) :=
      ⟨by show 2 ≤ sizeLine; decide, [.int i tk, y], .cons ⟨_, rfl⟩ (.cons ru .nil), ⟨_, hT2, rfl, _, rfl⟩⟩
    have I1 : Inv X pins σ (upd H s.heap.objs.size (.tup [.int (i : Nat), x])) { s with heap := h'', toks := tk + 1 } :=
      I.turnedNew (ch := [e, it]) (fun b ob hb q => (sb.2 b (fun z => hb (by simp [z]))).trans (hk b ob (fun z => hb (by simp [z])) (fun z => hb (by simp [z])) q)) hf (Nat.le_refl _) new
    refine ⟨.ref s.heap.objs.size, _, I1, rfl, ⟨_, x, rfl, I.hok.fresh (Nat.le_refl _), rfl, fun ys hy => by rw [I.tuple_inj hy hq]; exact hx⟩, ⟨⟨y, ?_⟩, hit'.1.at fun o q => (sb.2 it (Ne.symm hne)).trans q, hne⟩, fun b hb => ?_⟩
    · have e1 : ((i + 1 : Nat) : Int) = (i : Int) + 1 := by omega
      rw [e1]; exact he'
    · have hb' : b < s.heap.objs.size := by
        have e' : b = e ∨ b = it := by simpa using hb
        rcases e' with z | z
        · rw [z]; exact hel
        · rw [z]; exact hil
      rw [upd_ne (Nat.ne_of_lt hb')]
      exact (hf b hb).1
  done := by
    intro X hP hw hK hc i pins s σ H E I hf st hg
    subst hP hw hK
    obtain ⟨⟨old, he⟩, hit, hne⟩ := st
    obtain ⟨xs, hq, hx⟩ := hg
    obtain ⟨its, rv, p, hz⟩ := I.tuple hq
    obtain ⟨f0, f1, f2, f3, f4, f5⟩ := hf it (by simp)
    have hl := rv.length
    have hT : s.TypeIs (.ref e) "enumerate" := ⟨_, he, rfl⟩
    unfold pyNext
    refine wpAny_bind (wpAny_attempt (wpAny_callSpecial?_slot (name := Str.ofString "__next__") hT F.slot_enumerate_next
      (wpAny_call_entry F.slot_enumerate_next hT F.entry_enumerate_next ?_ (F.args_enumerate_next_1 _))))
    show wpAny _ _ (field (.ref e) 2 >>= _) _ _ _
    refine wpAny_bind (wpAny_field he rfl (x := .ref it) rfl ?_)
    refine wpAny_bind (wpAny_nextOf_tuple_end (show X.A.in1.handled = none from I.ok.hd hc) hit (show s.heap.IsTuple a its.toArray from p) (by simp; omega) fun h' x he' hx' => ?_)
    obtain ⟨o, ho, hc⟩ := hx'
    refine wpAny_bind (wpAny_isInstance (T := "StopIteration") (b := true) ⟨o, ho, hc⟩ isSubtype_stop ?_)
    exact wpAny_pure ⟨rfl, I.turned (t' := s.toks) (fun b o hb q => he' b o hb q) f0 f1 f3 f4 f5⟩
  self := fun A i s Q E st h => let ⟨⟨_, he⟩, _⟩ := st; wpAny_pyIter_enum he h
theorem walk_enumT {K : PySem.W.Frag} {a : Addr} {xs : List V} : Walk (IteT K a) xs.length (fun H => SqT K H a xs) (YPair (fun i => some (.int (i : Nat))) (fun i => xs[i]?)) := by
  refine ⟨fun i _ hi q => ⟨xs, xs[i], q, by simp [hi]⟩, fun _ q => ⟨xs, q, Nat.le_refl _⟩, fun i H v H' _ q y => ?_⟩
  obtain ⟨T, x, h1, h2, h3, h4⟩ := y
  exact ⟨T, .int (i : Nat), x, h1, h2, h3, rfl, h4 xs q⟩
def iEnumB (K : PySem.W.Frag) (ta : TA) : TI := fun σ H R => ta σ H fun vs H1 => ∃ a, vs = [.ref a] ∧ ((∃ xs, SqL K H1 a xs ∧ R (Ite K a) H1) ∨ ∃ xs, SqT K H1 a xs ∧ R (IteT K a) H1)
open PyProof.Rows in
theorem pi_enumB {X : Cx} {e : Expr} {ta : TA} {p pos tpos : Pos} {elts : List Expr} {kk : Nat} (hg : Gl X "enumerate") (hm : X.mg "enumerate" = none) (ha : PA X [e] ta) (hs : starEach [e] X.env = [(false, eval e X.env)] := by rfl) :
    PI X (.Tuple elts kk tpos) (.Call (.Name "enumerate" p) [e] [] pos) (iEnumB X.K ta) := by
  refine ⟨fun pins s σ H R I h => ?_⟩
  refine Call_ (ld_blt I hg hm boot_enumerate (PyProof.Rows.callWith_type1 (thn (ha.run pos pins s σ H _ I h) fun us s1 ⟨vs, H1, I1, r1, q1⟩ => ?_) hs rfl))
  obtain ⟨a, ex, q1⟩ := q1
  subst ex
  have fp : ∀ {h' : Heap} (I2 : Inv X pins σ H1 { s1 with heap := h' }), ∀ b ∈ [s1.heap.objs.size + 1, s1.heap.objs.size], s1.heap.objs.size ≤ b := fun _ b hb => by
    have e' : b = s1.heap.objs.size + 1 ∨ b = s1.heap.objs.size := by simpa using hb
    rcases e' with z | z
    · rw [z]; exact Nat.le_add_right _ _
    · rw [z]; exact Nat.le_refl _
  cases r1 with
  | cons r rr =>
    cases rr
    cases r
    rcases q1 with ⟨xs, hq, q⟩ | ⟨xs, hq, q⟩
    · obtain ⟨its, rv, p', hz⟩ := I1.list hq
      refine call_enumerate_list p'.isList fun h' he hit hsz hk => wpAny_pyIter_enum he ?_
      have I2 : Inv X pins σ H1 { s1 with heap := h' } := I1.kept (t' := s1.toks) hk
      refine ⟨s1.heap.objs.size + 1, [s1.heap.objs.size + 1, s1.heap.objs.size], _, _, H1, rfl, I2, turn_enum a (s1.heap.objs.size + 1) s1.heap.objs.size, ⟨⟨.none, he⟩, hit, Nat.succ_ne_self _⟩, fun b hb => ?_, q⟩
      have hle := fp I2 b hb
      exact I1.fpOk hle (I1.hok.fresh hle)
    · obtain ⟨its, rv, p', hz⟩ := I1.tuple hq
      have hal : a < s1.heap.objs.size := by obtain ⟨_, z, _⟩ := p'; exact Heap.lt_size z
      refine enum_begins1 (begins_tuple a its.toArray) p' fun h' he hit hsz hk => wpAny_pyIter_enum he ?_
      have I2 : Inv X pins σ H1 { s1 with heap := h' } := I1.kept (t' := s1.toks) hk
      refine ⟨s1.heap.objs.size + 1, [s1.heap.objs.size + 1, s1.heap.objs.size], _, _, H1, rfl, I2, turn_enumT a (s1.heap.objs.size + 1) s1.heap.objs.size (Nat.ne_of_lt hal) (Nat.ne_of_lt (Nat.lt_succ_of_lt hal)), ⟨⟨.none, he⟩, ⟨_, hit, rfl, rfl⟩, Nat.succ_ne_self _⟩, fun b hb => ?_, q⟩
      have hle := fp I2 b hb
      exact I1.fpOk hle (I1.hok.fresh hle)
@[simp] def mIEnum2 (a : MA) : MI := fun s st => (a s st).bind fun xs st1 => match xs with
  | [.lst ws] => .ok (.vals ((List.range ws.length).map fun i => .tup [.int (i : Nat), ws.getD i .non])) st1
  | [.xst ws] => .ok (.vals ((List.range ws.length).map fun i => .tup [.int (i : Nat), ws.getD i .non])) st1
  | [.tup ws] => .ok (.vals ((List.range ws.length).map fun i => .tup [.int (i : Nat), ws.getD i .non])) st1
  | _ => .stuck
section
variable {X : Cx} {Cl : Nat → Addr} {E : XK}
theorem walkS_en {K : PySem.W.Frag} {β : Bt} {H : Hp} {J : It} {G : Hp → Prop} {ws : List W} {vs : List V} (wk : Walk J vs.length G (YPair (fun i => some (.int (i : Nat))) (fun i => vs[i]?))) (hG : ∀ β' H', Ext K β H β' H' → G H') (r : RVs K β H ws vs) :
    WalkS K Cl β H J (.vals ((List.range ws.length).map fun i => .tup [.int (i : Nat), ws.getD i .non])) := by
  refine ⟨G, _, (show Walk J ((List.range ws.length).map fun i => W.tup [.int (i : Nat), ws.getD i .non]).length _ _ from by rw [List.length_map, List.length_range, r.length]; exact wk), fun β' H' st e hr _ => hG β' H' e, fun i H1 x H2 β1 st w e hr hw y => ?_⟩
  obtain ⟨T, a, b, rfl, hT, rfl, ha, hb⟩ := y
  have hw' : ((List.range ws.length).map fun i => W.tup [.int (i : Nat), ws.getD i .non])[i]? = some w := hw
  rw [List.getElem?_map] at hw'
  by_cases hi : i < ws.length
  · rw [List.getElem?_range hi] at hw'
    cases hw'
    cases ha
    obtain ⟨v, hv, rv⟩ := r.get (show ws[i]? = some ws[i] from List.getElem?_eq_getElem hi)
    have hb' : vs[i]? = some b := hb
    have hbv : b = v := by rw [hb'] at hv; exact Option.some.inj hv
    subst hbv
    have eg : ws.getD i .non = ws[i] := by simp [List.getD, hi]
    refine ⟨Ext.new hT, hr.new hT, ?_⟩
    show RV K β1 _ (W.tup [W.int (i : Nat), ws.getD i W.non]) (V.ref T)
    rw [eg]
    exact RV.newT hT (.cons (.int _) (.cons (rv.ext e) .nil))
  · rw [List.getElem?_eq_none (by simp; omega)] at hw'
    cases hw'
theorem ji_enum {e : Expr} {mr : MA} {p pos tpos : Pos} {elts : List Expr} {kk : Nat} (hm : X.mg "enumerate" = none) (ha : JA X Cl E [e] mr) (hg : Gl X "enumerate" := by rfl) (hs : starEach [e] X.env = [(false, eval e X.env)] := by rfl) :
    JI X Cl E (.Tuple elts kk tpos) (.Call (.Name "enumerate" p) [e] [] pos) (mIEnum2 mr) := by
  obtain ⟨t, pr, q⟩ := ha.ex
  refine ⟨_, pi_enumB hg hm pr hs, fun β H σ s st R hr hs h => q β H σ s st _ hr hs (Out.bindI h fun x st1 β1 H1 v _ e1 hr1 rx h1 => ?_)⟩
  split at h1
  · obtain ⟨u, rfl, ru⟩ := rx.one
    cases ru with
    | lst hv hn r1 => exact ⟨_, rfl, .inl ⟨_, SqL.of hv, h1 β1 H1 _ (Ext.refl _ _ _) hr1 (walkS_en walk_enum (fun β' H' e => SqL.of (e.lst _ _ hv hn).1) r1)⟩⟩
  · obtain ⟨u, rfl, ru⟩ := rx.one
    cases ru with
    | xst hv r1 => exact ⟨_, rfl, .inl ⟨_, KL.sq hv, h1 β1 H1 _ (Ext.refl _ _ _) hr1 (walkS_en walk_enum (fun β' H' e => KL.sq (hv.imp (fun x => x) fun ⟨o, x⟩ => ⟨o, e.frz _ _ _ x⟩)) r1)⟩⟩
  · obtain ⟨u, rfl, ru⟩ := rx.one
    cases ru with
    | tup hv r1 => exact ⟨_, rfl, .inr ⟨_, hv, h1 β1 H1 _ (Ext.refl _ _ _) hr1 (walkS_en walk_enumT (fun β' H' e => e.tup _ _ hv) r1)⟩⟩
  · exact h1.elim
end
end Mi
/-! The mirror layer, part J: dicts with tuple keys. -/
namespace Mi
open PySem PySem.W PySem.Calls PyProof.Rows PyProof.V PySem.Spec L2

section
variable {X : Cx}
def rSetdefT : V → List V → Hp → VK → Prop := fun x xs H Q => ∃ (a : Addr) (kvs : List (List L2.Key × V)) (k : List L2.Key) (b : Addr) (d : V), x = .ref a ∧ xs = [.ref b, d] ∧ H a = some (.dT kvs) ∧ H b = some (.tup (k.map kV)) ∧ kvs.length < sizeLine ∧
  (∀ v, valV kvs k = some v → Q v H) ∧ (valV kvs k = none → Q d (upd H a (.dT (putK kvs k d))))
theorem mt_setdefT (hu : X.A.units + 1 < cLine) : MtR X "dict.setdefault" rSetdefT := by
  intro pins s σ H x xs v us Q I rx rxs h
  obtain ⟨a, kvs, k, b, d, rfl, rfl, ha, hb, hlt, q1, q2⟩ := h
  cases rx
  obtain ⟨u1, u2, rfl, r1, r2⟩ := vals2 rxs
  cases r1
  obtain ⟨z, hd, xs', rel, dd⟩ := dt_of I.hok ha
  have hz : xs'.length ≤ sizeLine := by rw [← Paired.length rel]; exact z
  refine call_meetsIn PySem.F.slot_dict_setdefault dd.typeIs PySem.F.entry_dict_setdefault (PySem.F.args_dict_setdefault_3 _ _ _) (meetsH_dict_setdefault (tupleKind (mixKind X.prog X.w)) a b hd u2)
    ⟨tupleKind_room_in1 hu, k, xs', key_of I.hok hb, dd, hz, fun p hp => ?_, fun hn h' dd' hs => ?_⟩
  · have r := rel.val k
    rw [hp] at r
    obtain ⟨v0, ev, rv⟩ : ∃ v0, valV kvs k = some v0 ∧ RelV v0 p.2 := by
      cases ev : valV kvs k with
      | none =>
        rw [ev] at r
        exact (show False from r).elim
      | some v0 =>
        rw [ev] at r
        exact ⟨v0, rfl, r⟩
    show EP X pins σ Q p.2 _
    exact ⟨v0, H, I.tok _, rv, q1 v0 ev⟩
  · have r := rel.val k
    rw [hn] at r
    have e : valV kvs k = none := by
      cases ev : valV kvs k with
      | none => rfl
      | some v0 =>
        rw [ev] at r
        exact (show False from r).elim
    obtain ⟨o, es, ep, hq, h2, h3, h4, _, h5⟩ := dd'
    have hl : (putK kvs k d).length ≤ sizeLine := by have := length_putK kvs k d; omega
    have I2 : Inv X pins σ (upd H a (.dT (putK kvs k d))) { s with heap := h', toks := s.toks + (tupleKind (mixKind X.prog X.w)).draws k } :=
      d_write I (by rw [ha]; exact True.intro) hs ⟨o, hq⟩ ⟨hl, hd, _, (rel.put k hb r2).keeps (fun c ys ec => (by rw [upd_ne (ne_of ec ha (fun z => nomatch z))]; exact ec)), o, es, ep, hq, h2, h3, h4, h5⟩
    show EP X pins σ Q u2 _
    exact ⟨d, _, I2, r2, q2 e⟩
end

@[simp] def keysT : List W → Option (List Key)
  | [] => some []
  | w :: r => match toKey w, keysT r with
    | some k, some ks => some (k :: ks)
    | _, _ => none
theorem keysT_ok {K : PySem.W.Frag} {β : Bt} {H : Hp} : ∀ {ws : List W} {vs : List V} {ks : List Key}, RVs K β H ws vs → keysT ws = some ks → vs = ks.map kV
  | _, _, ks, .nil, h => by simp only [keysT] at h; cases h; rfl
  | _, _, ks, .cons (w := w) (ws := ws) r1 r, h => by
    unfold keysT at h
    split at h
    · rename_i k ks' e1 e2
      cases h
      rw [toKey_ok r1 e1, keysT_ok r e2]
      rfl
    · cases h
/-- {} , a dict with tuple keys -/
@[simp] def mDNewT : ME := fun _ st => .ok (.ref st.length) (st ++ [.dT []])
/-- d.setdefault((..), []) -/
@[simp] def mSetDef (o : ME) (a : MA) : ME := fun s st => (o s st).bind fun x st1 => match x with
  | .ref r => match st1[r]? with
    | some (.dT _) => (a s st1).bind fun ks st2 => match st2[r]?, keysT ks with
      | some (.dT kvs), some k => if kvs.length < sizeLine ∧ ks.length ≤ sizeLine then match valW kvs k with
          | some w => .ok w st2
          | none => .ok (.ref st2.length) ((st2 ++ [Ob.lst []]).set r (.dT (putKW kvs k (.ref st2.length))))
        else .stuck
      | _, _ => .stuck
    | _ => .stuck
  | _ => .stuck
section
variable {X : Cx} {Cl : Nat → Addr} {E : XK} {pos p : Pos}
theorem je_dnewT : JE X Cl E (.Dict [] [] pos) mDNewT :=
  ⟨_, pe_dnewT, fun β H σ s st Q hr hs h p hp => h _ _ _ (Ext.push hp) (hr.push hp ⟨[], upd_same, .nil⟩) (.ref (by rw [← hr.len]; exact push_last))⟩
theorem je_setdef {o : Expr} {es : List Expr} {k : Nat} {tpos lpos apos cpos : Pos} {mo : ME} {mr : MA} (hu : X.A.units + 1 < cLine)
    (ho : JE X Cl E o mo) (ha : JA X Cl E es mr)
    (hbase : attributeBase o "setdefault" X.env (eval o X.env) = eval o X.env := by rfl)
    (hfew : ((backTo cpos (starEach [.Tuple es k tpos, .List [] lpos] X.env)).all (fun x => !x.1) && (backToKw cpos (keywordEach [] X.env)).all (fun x => x.1.isSome) && decide ([Expr.Tuple es k tpos, .List [] lpos].length + ([] : List Keyword).length + (if ([] : List Keyword).isEmpty then 0 else 1) < 30)) = true := by rfl)
    (hline : (apos.endLine == cpos.line) = true := by rfl)
    (hs : starEach [.Tuple es k tpos, .List [] lpos] X.env = (false, eval (.Tuple es k tpos) X.env) :: starEach [.List [] lpos] X.env := by rfl)
    (hs2 : starEach [.List [] lpos] X.env = (false, eval (.List [] lpos) X.env) :: starEach [] X.env := by rfl)
    (hplain : (backTo cpos (starEach [.List [] lpos] X.env)).any (·.1) = false := by rfl) :
    JE X Cl E (.Call (.Attribute o "setdefault" apos) [.Tuple es k tpos, .List [] lpos] [] cpos) (mSetDef mo mr) := by
  obtain ⟨_, p1, q1⟩ := ho.ex
  obtain ⟨_, p2, q2⟩ := ha.ex
  refine ⟨_, pe_bm F.plainAttrs_dict F.slot_dict_setdefault F.type_dict_setdefault (mt_setdefT hu) p1 (pa_cons (pe_tup p2) (pa_cons (pe_lst pa_nil) pa_nil hs2) hs) hbase hfew hline hs hplain, fun β H σ s st Q hr hs h => q1 β H σ s st _ hr hs (h.bind fun x st1 β1 H1 v _ e1 hr1 rx1 h1 => ?_)⟩
  cases x with
  | ref r =>
    simp only at h1
    split at h1
    · rename_i kv0 es1
      have ty : tyV X.K "dict" v H1 := by
        obtain ⟨a, rfl, _, gs, hg, _⟩ := rx1.atRef hr1 es1 (by intro z; cases z)
        exact .inr (.inr (.inl ⟨rfl, .inr ⟨gs, hg⟩⟩))
      refine ⟨ty, q2 β1 H1 σ s st1 _ hr1 (hs.ext e1) (h1.bind fun ks st2 β2 H2 vs _ e2 hr2 rk h2 => ?_)⟩
      have rx2 := rx1.ext e2
      split at h2
      · rename_i kvs k es2 ek
        split at h2
        · rename_i hz
          have evs := keysT_ok rk ek
          refine ⟨by rw [← rk.length]; exact hz.2, fun p hp => ?_⟩
          refine ⟨Nat.zero_le _, fun l hl => ?_⟩
          have e3 : Ext X.K β2 H2 β2 (upd H2 p (.tup vs)) := Ext.new hp
          have hr3 : HR X.K Cl β2 (upd H2 p (.tup vs)) st2 := hr2.new hp
          have hpl : p ≠ l := fun z => by subst z; rw [upd_same] at hl; cases hl
          have hkey : ∀ (o : HO), (upd (upd H2 p (.tup vs)) l o) p = some (.tup (k.map kV)) := fun o => by rw [upd_ne hpl, upd_same, evs]
          cases ew : valW kvs k with
          | some w =>
            rw [ew] at h2
            have e4 : Ext X.K β2 (upd H2 p (.tup vs)) β2 (upd (upd H2 p (.tup vs)) l (.lst [])) := Ext.new hl
            have hr4 : HR X.K Cl β2 (upd (upd H2 p (.tup vs)) l (.lst [])) st2 := hr3.new hl
            obtain ⟨a, rfl, hb, gs, hg, hrs⟩ := ((rx2.ext e3).ext e4).atRef hr4 es2 (by intro z; cases z)
            obtain ⟨v', hv', rv'⟩ := hrs.val ew
            refine ⟨a, gs, k, p, _, rfl, rfl, hg, hkey _, by rw [← hrs.length]; exact hz.1, fun v0 e0 => ?_, fun e0 => by rw [hv'] at e0; cases e0⟩
            rw [hv'] at e0; cases e0
            exact h2 β2 _ _ (e3.trans e4) hr4 rv'
          | none =>
            rw [ew] at h2
            have e4 : Ext X.K β2 (upd H2 p (.tup vs)) (β2.push l) (upd (upd H2 p (.tup vs)) l (.lst [])) := Ext.push hl
            have hr4 : HR X.K Cl (β2.push l) (upd (upd H2 p (.tup vs)) l (.lst [])) (st2 ++ [.lst []]) := hr3.push hl ⟨[], upd_same, .nil⟩
            have hlt : r < st2.length := (List.getElem?_eq_some_iff.mp es2).1
            have es4 : (st2 ++ [Ob.lst []])[r]? = some (.dT kvs) := by rw [List.getElem?_append_left hlt]; exact es2
            obtain ⟨a, rfl, hb, gs, hg, hrs⟩ := ((rx2.ext e3).ext e4).atRef hr4 es4 (by intro z; cases z)
            have em : Ext X.K (β2.push l) _ (β2.push l) (upd (upd (upd H2 p (.tup vs)) l (.lst [])) a (.dT (putK gs k (.ref l)))) := Ext.mut hr4 hb hg trivial
            have rl : RV X.K (β2.push l) (upd (upd H2 p (.tup vs)) l (.lst [])) (.ref st2.length) (.ref l) := .ref (by rw [← hr3.len]; exact push_last)
            refine ⟨a, gs, k, p, _, rfl, rfl, hg, hkey _, by rw [← hrs.length]; exact hz.1, ⟨fun v0 e0 => (by rw [hrs.valN ew] at e0; cases e0), fun _ => ?_⟩⟩
            exact h2 (β2.push l) _ _ ((e3.trans e4).trans em) (hr4.mut hb hg trivial ⟨_, upd_same, (hrs.put k rl).ext em⟩) (rl.ext em)
        · exact h2.elim
      · exact h2.elim
    · exact h1.elim
  | _ => exact h1.elim
end
end Mi
/-! The mirror layer, part K: the values of a dict with tuple keys walked (the dict locked). -/
namespace Mi
open PySem PySem.W PySem.Calls PyProof.Rows PyProof.V PySem.Spec L2
def Itdt (d : Addr) (o : Obj) (kvs : List (List Key × V)) : It :=
  ⟨fun i H => H d = some (.frz o (.dT kvs)) ∧ i < kvs.length, fun i H x H' => H' = H ∧ ∃ k, kvs[i]? = some (k, x), fun i H => H d = some (.frz o (.dT kvs)) ∧ kvs.length ≤ i⟩
section
variable {X : Cx} {pins : List (Addr × Obj)} {σ : L2.St} {H : Hp} {s : Shared} {d : Addr} {o : Obj}
theorem frzTv {kvs : List (List Key × V)} (I : Inv X pins σ H s) (h : H d = some (.frz o (.dT kvs))) :
    (d == sysModules) = false ∧ s.heap.get? d = some o ∧ o.ExactDict ∧ ∃ (es : Array DictEntry) (ep : Nat), o.data = .dict es ep ∧ es.size = kvs.length ∧
      ∀ (i : Nat) (k : List Key) (v : V), kvs[i]? = some (k, v) → ∃ (en : DictEntry), es[i]? = some en ∧ RelV v en.val := by
  obtain ⟨hd, z, hs, xs, pr, o', es, ep, ho, hx, hdt, he, _⟩ := I.hok d _ h
  rw [hd] at ho
  cases ho
  refine ⟨hs, hd, hx, es, ep, hdt, ?_, fun i k v e => ?_⟩
  · have l1 : es.size = xs.length := size_of_entries he
    have l2 : kvs.length = xs.length := Paired.length pr
    omega
  · obtain ⟨b, hb, e1, e2, e3⟩ := paired_get pr e
    have q := entry_at he i
    rw [hb] at q
    exact ⟨_, q, e3⟩
end
section
variable {P : Program} {w : World} {K : PySem.W.Frag} {tg : Expr} {d : Addr} {o : Obj} {es : Array DictEntry} {ep : Nat}
theorem turn_valsT {kvs : List (List Key × V)} (it : Addr) (hod : o.data = .dict es ep) : Turn P w K tg (Itdt d o kvs) [it] it (fun i h => h.IsValIter it d i kvs.length ep) where
  mem := by simp
  obj := fun i h st b hb => by
    have e : b = it := by simpa using hb
    subst e
    obtain ⟨oi, e, c, dd⟩ := st
    exact ⟨oi, e, fun v z => by rw [dd] at z; cases z⟩
  keep := fun i h h' st k => st.at fun oi e => k it (by simp) oi e
  item := by
    intro X hP hw hK hc i pins s σ H E I hf st hg
    subst hP hw hK
    obtain ⟨hd, hi⟩ := hg
    obtain ⟨f0, f1, f2, f3, f4, f5⟩ := hf it (by simp)
    obtain ⟨hs, hgd, hx, es', ep', hdt, hsz, ent⟩ := frzTv I hd
    obtain ⟨rfl, rfl⟩ := dict_ep hod hdt
    obtain ⟨⟨k, v⟩, hkv⟩ : ∃ p, kvs[i]? = some p := ⟨kvs[i], List.getElem?_eq_getElem hi⟩
    obtain ⟨en, hen, ru⟩ := ent i k v hkv
    obtain ⟨hil, hie⟩ := Array.getElem?_eq_some_iff.mp hen
    rw [← hsz] at st
    refine wpAny_pyNext_values_item_raw st ⟨o, hgd, hx, hdt⟩ hil fun h' st' sb => ?_
    have I1 : Inv X pins σ H { s with heap := h' } := I.turned (t' := s.toks) (fun b ob hb e => (sb.2 b hb).trans e) f0 f1 f3 f4 f5
    obtain ⟨oi, e, c, dd⟩ := id st'
    rw [hie]
    refine ⟨en.val, rfl, go_of (s := { s with heap := h' }) e c dd (by decide) ⟨v, H, I1, ru, ⟨rfl, k, hkv⟩, ?_, fun b hb => (hf b hb).1⟩⟩
    show h'.IsValIter it d (i + 1) kvs.length _
    rw [← hsz]
    exact st'
  done := by
    intro X hP hw hK hc i pins s σ H E I hf st hg
    subst hP hw hK
    obtain ⟨hd, hi⟩ := hg
    obtain ⟨f0, f1, f2, f3, f4, f5⟩ := hf it (by simp)
    obtain ⟨hs, hgd, hx, es', ep', hdt, hsz, ent⟩ := frzTv I hd
    obtain ⟨rfl, rfl⟩ := dict_ep hod hdt
    rw [← hsz] at st
    exact wpAny_pyNext_values_end_raw (I.ok.hd hc) st ⟨o, hgd, hx, hdt⟩ (by omega) fun h' eb => ⟨rfl, I.turned (t' := s.toks) (fun b ob hb e => eb b ob hb e) f0 f1 f3 f4 f5⟩
  self := fun A i s Q E st h => wpAny_pyIter_valiter st h
end
def iValsT (td : TE) : TI := fun σ H R => td σ H fun x H1 => ∃ d o kvs, x = .ref d ∧ H1 d = some (.frz o (.dT kvs)) ∧ R (Itdt d o kvs) H1
theorem pi_valuesT {X : Cx} {tg e : Expr} {td : TE} {apos cpos : Pos} (he : PE X e td) (hbase : attributeBase e "values" X.env (eval e X.env) = eval e X.env := by rfl) (hline : (apos.endLine == cpos.line) = true := by rfl) : PI X tg (.Call (.Attribute e "values" apos) [] [] cpos) (iValsT td) := by
  refine ⟨fun pins s σ H R I h => ?_⟩
  refine wpAny_Call_method (T := "dict") (id := "dict.values") hbase rfl hline F.plainAttrs_dict F.slot_dict_values F.type_dict_values (thn (he.run pins s σ H _ I h) fun u s1 ⟨x, H1, I1, rx, d, o, kvs, ex, hd, q⟩ => ?_)
  subst ex
  obtain rfl : u = Value.ref d := rx
  obtain ⟨hs, hgd, hx, es, ep, hdt, hsz, ent⟩ := frzTv I1 hd
  have hraw : s1.heap.DictRaw d es ep := ⟨o, hgd, hx, hdt⟩
  have hty : s1.TypeIs (.ref d) "dict" := ⟨o, hgd, hx.1⟩
  refine ⟨hty, ?_, ?_⟩
  · intro a ea; cases ea; exact ⟨o, hgd, hx.2.1⟩
  have I2 : Inv X pins σ H1 { s1 with heap := s1.heap.push { cls := .type "dict_values", data := .fields #[.ref d] } } := I1.kept (t' := s1.toks) fun b ob q => Heap.get?_push_of_some _ q
  have fin : wpAny (model X.prog X.w) X.A (pyIter (.ref s1.heap.objs.size)) (PIE X pins σ tg R) X.xe { s1 with heap := s1.heap.push { cls := .type "dict_values", data := .fields #[.ref d] } } := by
    refine wpAny_pyIter_values_raw (d := d) (es := es) (ep := ep) ⟨_, Heap.get?_push_size _ rfl, rfl, rfl⟩ ⟨o, Heap.get?_push_of_some _ hgd, hx, hdt⟩ (pi_one (tk := s1.toks) I2 _ (turn_valsT _ hdt) ⟨_, Heap.get?_push_size _ rfl, rfl, ?_⟩ q)
    rw [hsz] <;> rfl
  show wpAny _ _ (callWith cpos (.builtin "dict.values") [.ref d] [] []) _ X.xe s1
  exact method_meetsIn F.slot_dict_values F.entry_dict_values rfl (PySem.evalArgs_none ⟨rfl, hty, F.args_dict_values_1 _, _, meets_dict_values_raw d hs, ⟨⟨es, ep, hraw⟩, fin⟩⟩)
end Mi
/-! The mirror layer, part L: [len(x) for x in self.f.values()], f a dict with tuple keys whose values are lists. -/
namespace Mi
open PySem L2
@[simp] def lensW (st : Sto) : List (List Key × W) → Option (List Int)
  | [] => some []
  | (_, .ref l) :: r => match st[l]?, lensW st r with
    | some (.lst ws), some ls => some ((ws.length : Nat) :: ls)
    | _, _ => none
  | _ => none
def mLenVals (c : Nat) (f : Str) (i v : Nat) : ME := fun s st => match s[i]? with
  | some (some (.ref q)) => match st[q]? with
    | some (.ins d fs) => match fs.lookup f with
      | some (.ref r) => match st[r]? with
        | some (.dT kvs) => match lensW st kvs with
          | some ls => if d = c ∧ v < s.length ∧ kvs.length < sizeLine then .ok (.lst (ls.map W.int)) st else .stuck
          | none => .stuck
        | _ => .stuck
      | _ => .stuck
    | _ => .stuck
  | _ => .stuck
theorem lensW_ok {K : PySem.W.Frag} {Cl : Nat → Addr} {β : Bt} {H : Hp} {st : Sto} (hr : HR K Cl β H st) : ∀ {kvs : List (List Key × W)} {gs : List (List Key × V)} {ls : List Int}, RF K β H kvs gs → lensW st kvs = some ls →
    ls.length = gs.length ∧ ∀ (j : Nat) (k : List Key) (v : V), gs[j]? = some (k, v) → ∃ (l : Addr) (us : List V), v = .ref l ∧ H l = some (.lst us) ∧ ls[j]? = some ((us.length : Nat) : Int)
  | _, _, ls, .nil, h => by simp only [lensW] at h; cases h; exact ⟨rfl, fun j k v e => by simp at e⟩
  | _, _, ls, .cons (k := k0) (w := w) (v := v0) (fs := fs) (gs := gs) h0 t, h => by
    cases w with
    | ref l =>
      simp only [lensW] at h
      split at h
      · rename_i ws ls' e1 e2
        cases h
        obtain ⟨h1, h2⟩ := lensW_ok hr t e2
        obtain ⟨a, rfl, _, us, hu, hrs⟩ := h0.atRef hr e1 (by intro z; cases z)
        refine ⟨by simp [h1], fun j k v e => ?_⟩
        cases j with
        | zero =>
          simp at e
          obtain ⟨rfl, rfl⟩ := e
          exact ⟨a, us, rfl, hu, by simp [hrs.length]⟩
        | succ j =>
          simp at e
          obtain ⟨l', us', q1, q2, q3⟩ := h2 j k v e
          exact ⟨l', us', q1, q2, by simpa using q3⟩
      · cases h
    | _ => simp [lensW] at h
section
variable {X : Cx} {Cl : Nat → Addr} {E : XK}
theorem rvs_ints {K : PySem.W.Frag} {β : Bt} {H : Hp} : ∀ ls : List Int, RVs K β H (ls.map W.int) (ls.map V.int)
  | [] => .nil
  | _ :: ls => .cons (.int _) (rvs_ints ls)
def rLen (K : PySem.W.Frag) : List V → Hp → VK → Prop := fun xs H Q => ∃ x n, xs = [x] ∧ LenV K x H n ∧ Q (.int n) H
theorem se_lenVals {K : PySem.W.Frag} {c : Nat} {f : Str} {i v : Nat} (hc : Cls K (Cl c)) (hn : NoAttr K (Cl c) f) :
    SE K Cl E (tLockE (tLc (iValsT (tFld K (tVar i) f)) (gName v) tYes (tCB (rLen K) (tCons (tVar v) tNil)) [v])) (mLenVals c f i v) := fun β H σ s st Q hr hs h => by
  unfold mLenVals at h
  split at h
  · rename_i q es
    split at h
    · rename_i d fs eq
      split at h
      · rename_i r el
        split at h
        · rename_i kvs er
          split at h
          · rename_i ls els
            split at h
            · rename_i hz
              obtain ⟨rfl, hv, hkl⟩ := hz
              obtain ⟨x, hx, rx⟩ := hs.2 i _ es
              obtain ⟨a, rfl, _, dx, gs, ha, hrs⟩ := rx.atRef hr eq (by intro z; cases z)
              obtain ⟨y, hy, ry⟩ := hrs.look el
              obtain ⟨dd, rfl, _, gv, hd, hrv⟩ := ry.atRef hr er (by intro z; cases z)
              obtain ⟨l1, l2⟩ := lensW_ok hr hrv els
              have hne : a ≠ dd := fun z => by subst z; rw [hd] at ha; cases ha
              refine ⟨dd, .dT gv, hd, trivial, fun od => ?_⟩
              refine ⟨_, hx, a, _, dx, gs, _, rfl, (by rw [upd_ne hne]; exact ha), hc, hn, hy, dd, od, gv, rfl, upd_same, fun D hD => ?_⟩
              have hDd : D ≠ dd := fun z => by subst z; rw [upd_same] at hD; cases hD
              have hDH : H D = none := by rw [upd_ne hDd] at hD; exact hD
              refine ⟨fun j m H' => H' = upd (upd H dd (.frz od (.dT gv))) D (.lst ((ls.take j).map V.int)) ∧ m = gv.length - j, ⟨gv.length, by simp⟩, ?_⟩
              rintro j m H' ⟨rfl, rfl⟩
              have hfd : (upd (upd H dd (.frz od (.dT gv))) D (.lst ((ls.take j).map V.int))) dd = some (.frz od (.dT gv)) := by rw [upd_ne (Ne.symm hDd), upd_same]
              by_cases hj : gv.length ≤ j
              · refine .inl ⟨⟨hfd, hj⟩, hfd, ?_⟩
                rw [List.take_of_length_le (by omega)]
                have e : upd (upd (upd H dd (.frz od (.dT gv))) D (.lst (ls.map V.int))) dd (.dT gv) = upd H D (.lst (ls.map V.int)) := by
                  funext b
                  by_cases b1 : b = dd
                  · subst b1; rw [upd_same, upd_ne (Ne.symm hDd), hd]
                  · rw [upd_ne b1]
                    by_cases b2 : b = D
                    · subst b2; rw [upd_same, upd_same]
                    · rw [upd_ne b2, upd_ne b1, upd_ne b2]
                rw [e]
                exact Po.lst h hr hDH (rvs_ints ls)
              · refine .inr ⟨⟨hfd, by omega⟩, fun H'' => H'' = upd (upd H dd (.frz od (.dT gv))) D (.lst ((ls.take (j + 1)).map V.int)), fun H'' e => ⟨gv.length - (j + 1), by omega, e, rfl⟩, ?_⟩
                rintro x H'' ⟨rfl, k, hk⟩
                obtain ⟨l, us, rfl, hl, hls⟩ := l2 j k x hk
                have hld : l ≠ dd := fun z => by subst z; rw [hd] at hl; cases hl
                have hlD : l ≠ D := fun z => by subst z; rw [hDH] at hl; cases hl
                have hvl : v < σ.length := by rw [← hs.1]; exact hv
                refine ⟨?_, ?_⟩
                · show (((σ.set v none).set v _).set v none) = σ.set v none
                  simp
                · unfold tYes
                  simp only [if_true]
                  have HLL : SqL K (upd (upd H dd (.frz od (.dT gv))) D (.lst ((ls.take j).map V.int))) l us := .inl (.inl (by rw [upd_ne hlD, upd_ne hld]; exact hl))
                  refine ⟨_, (by show ((σ.set v none).set v _)[v]? = _; rw [List.getElem?_set_self (by simpa using hvl)]), _, us.length, rfl, (show LenV K (.ref l) _ us.length from Or.inl ⟨us, HLL, rfl⟩), (ls.take j).map V.int, upd_same, ?_, ?_⟩
                  · rw [List.length_map, List.length_take]
                    have := hrv.length
                    omega
                  · rw [List.take_succ, hls]
                    funext b
                    by_cases b2 : b = D
                    · subst b2; rw [upd_same, upd_same]; simp
                    · rw [upd_ne b2, upd_ne b2, upd_ne b2]
            · exact h.elim
          · exact h.elim
        · exact h.elim
      · exact h.elim
    · exact h.elim
  · exact h.elim
end
end Mi
namespace Mi
open PySem L2
section
variable {X : Cx} {Cl : Nat → Addr} {E : XK}
theorem pe_lenName {y : Str} {p p2 pos : Pos} (v : Nat) (hm : X.mg "len" = none) (hv : bootBuiltins "len" = some (.builtin "len")) (hN : X.N[v]? = some y := by rfl) (hvis : Vis X.env.scope y := by first | exact Or.inl rfl | exact Or.inr (Or.inl rfl) | exact Or.inr (Or.inr rfl)) (hd : (y == ("__debug__" : Str)) = false := by decide)
    (hcd : (y == ("__classdict__" : Str)) = false := by decide) (hg : Gl X "len" := by rfl)
    (he : starEach [.Name y p2] X.env = (false, eval (.Name y p2) X.env) :: starEach [] X.env := by rfl) (hpl : (backTo pos (starEach [] X.env)).any (·.1) = false := by rfl) : PE X (.Call (.Name "len" p) [.Name y p2] [] pos) (tCB (rLen X.K) (tCons (tVar v) tNil)) :=
  pe_callB call_len hg hm hv (pa_cons (pe_var hN hvis hd hcd) pa_nil he) (by decide) (by decide) he hpl
theorem je_lenVals {c : Nat} {f self y : Str} {i v : Nat} {elt : Expr} {scope : Scope} {p4 p5 p6 p7 p8 pos : Pos} (hc : X.calm = true) (hN : X.N.Nodup) (hcl : Cls X.K (Cl c)) (hn : NoAttr X.K (Cl c) f) (ok : BlkOk X.N X.env.scope scope [(y, v)])
    (hg : ∀ (s : Shared) (H : Hp) (C : Addr) (cl : List (Str × Addr)) (fp : List Addr), JN (X.blk s H scope (compEnvC scope cl C X.env) fp) (.Name y p4) (.nm v))
    (he : ∀ (s : Shared) (H : Hp) (C : Addr) (cl : List (Str × Addr)) (fp : List Addr), PE (X.blk s H scope (compEnvC scope cl C X.env) fp) elt (tCB (rLen X.K) (tCons (tVar v) tNil)))
    (hself : X.N[i]? = some self := by rfl) (hvis : Vis X.env.scope self := by first | exact Or.inl rfl | exact Or.inr (Or.inl rfl) | exact Or.inr (Or.inr rfl)) (hd : (self == ("__debug__" : Str)) = false := by decide)
    (hcd : (self == ("__classdict__" : Str)) = false := by decide) (hb : attributeBase (.Name self p5) f X.env (eval (.Name self p5) X.env) = eval (.Name self p5) X.env := by rfl)
    (hbase : attributeBase (.Attribute (.Name self p5) f p6) "values" X.env (eval (.Attribute (.Name self p5) f p6) X.env) = eval (.Attribute (.Name self p5) f p6) X.env := by rfl) (hline : (p7.endLine == p8.line) = true := by rfl)
    (hs : ∀ x, foldedSetIterable (.Call (.Attribute (.Attribute (.Name self p5) f p6) "values" p7) [] [] p8) X.env x = pure x := by intro _; rfl) :
    JE X Cl E (.ListComp elt [⟨.Name y p4, .Call (.Attribute (.Attribute (.Name self p5) f p6) "values" p7) [] [] p8, [], 0⟩] scope pos) (mLenVals c f i v) :=
  ⟨_, pe_lock (pe_lc hc hN (pi_valuesT (pe_fld (pe_var hself hvis hd hcd) hb) hbase hline) ok (fun s H C cl fp => (hg s H C cl fp).pg) (fun s H C cl fp => pts_nil) he hs), se_lenVals hcl hn⟩
end
end Mi
/-! The mirror layer, part Q: what several laws' drawing functions share. -/
namespace Mi
open PySem L2
/-- the bag: a number left over, a seed, a place, the last cell, the cells -/
def BagOb (o : Ob) : Prop := ∃ (a b c d : Int) (ns : List Int), o = .lst [.int a, .int b, .int c, .int d, .lst (ns.map W.int)] ∧ 0 ≤ c
def Sm (i : Nat) (st st' : Sto) : Prop := st'.length = st.length ∧ (∀ k : Nat, k ≠ i → st'[k]? = st[k]?) ∧ ∃ o, st'[i]? = some o ∧ BagOb o
theorem Sm.trans {i : Nat} {a b c : Sto} (h : Sm i a b) (k : Sm i b c) : Sm i a c := ⟨k.1.trans h.1, fun j hj => (k.2.1 j hj).trans (h.2.1 j hj), k.2.2⟩
theorem Sm.refl {i : Nat} {st : Sto} {o : Ob} (h : st[i]? = some o) (b : BagOb o) : Sm i st st := ⟨rfl, fun _ _ => rfl, o, h, b⟩
theorem Sm.here {i : Nat} {a b : Sto} (h : Sm i a b) : Sm i b b := ⟨rfl, fun _ _ => rfl, h.2.2⟩
theorem Sm.set {i : Nat} {st : Sto} {o : Ob} (hi : i < st.length) (b : BagOb o) : Sm i st (st.set i o) := ⟨by simp, fun k hk => by rw [List.getElem?_set_ne (Ne.symm hk)], o, by simp [hi], b⟩
theorem Sm.lt {i : Nat} {a b : Sto} (h : Sm i a b) : i < b.length := by obtain ⟨_, _, o, h, _⟩ := h; exact (List.getElem?_eq_some_iff.mp h).1
theorem pick (P : Int → Prop) (vs : List Int) (r : Int) (r0 : 0 ≤ r) (r1 : r < vs.length) (h : ∀ v ∈ vs, P v) : ∃ v, atI (vs.map W.int) r = some (.int v) ∧ P v := by
  have hi : r.toNat < vs.length := by omega
  exact ⟨vs[r.toNat], atI_nn r0 (by simp [hi]), h _ (List.getElem_mem hi)⟩
theorem lg {m : Int} (h0 : 0 < m) (h1 : m < 18446744073709551616) : m.natAbs.log2 < 9000 := by
  have h := (Nat.log2_lt (n := m.natAbs) (k := 64) (by omega)).mpr (by omega)
  omega
end Mi
/-! The mirror layer, part T: rows of a tree over a list of numbers. -/
namespace Mi
open PySem L2
/-- a row's item -/
def gt (row : List Int) (p : Nat) : Int := row.getD p 0
theorem gt_get {row : List Int} {p : Nat} (h : p < row.length) : row[p]? = some (gt row p) := by simp [gt, List.getD, h]
/-- the row above a row -/
def prs (f : Int → Int → Int) (row : List Int) : List Int := (List.range (row.length / 2)).map fun k => f (gt row (2 * k)) (gt row (2 * k + 1))
theorem prs_len (f : Int → Int → Int) (row : List Int) : (prs f row).length = row.length / 2 := by simp [prs]
theorem prs_getD (f : Int → Int → Int) (row : List Int) (k : Nat) (h : k < row.length / 2) : gt (prs f row) k = f (gt row (2 * k)) (gt row (2 * k + 1)) := by
  simp [gt, prs, List.getD, h]
def lev (f : Int → Int → Int) (row : List Int) : Nat → List Int
  | 0 => row
  | k + 1 => prs f (lev f row k)
theorem lev_len (f : Int → Int → Int) (row : List Int) : ∀ k, (lev f row k).length = row.length / 2 ^ k
  | 0 => by simp [lev]
  | k + 1 => by rw [lev, prs_len, lev_len f row k, Nat.div_div_eq_div_mul, Nat.pow_succ]
theorem getD_set_ne {l : List Int} {p q : Nat} {d : Int} (h : p ≠ q) : gt (l.set p d) q = gt l q := by
  simp [gt, List.getD, List.getElem?_set_ne h]
theorem getD_set_self {l : List Int} {p : Nat} {d : Int} (h : p < l.length) : gt (l.set p d) p = d := by
  simp [gt, List.getD, h]
/-- a row in which one place has changed, the rows above it -/
theorem prs_set (f : Int → Int → Int) (row : List Int) (p : Nat) (d : Int) : prs f (row.set p d) = (prs f row).set (p / 2) (f (gt (row.set p d) (2 * (p / 2))) (gt (row.set p d) (2 * (p / 2) + 1))) := by
  refine List.ext_getElem (by simp [prs_len]) fun k h1 h2 => ?_
  have hk : k < row.length / 2 := by simpa [prs_len] using h1
  rw [List.getElem_set]
  by_cases e : p / 2 = k
  · subst e
    simp [prs]
  · rw [if_neg e]
    simp only [prs, List.getElem_map, List.getElem_range]
    rw [getD_set_ne (by omega), getD_set_ne (by omega)]
theorem lev_set (f : Int → Int → Int) (row : List Int) (p : Nat) (d : Int) (hp : p < row.length) : ∀ k, 2 ^ k ∣ row.length → lev f (row.set p d) k = (lev f row k).set (p / 2 ^ k) (gt (lev f (row.set p d) k) (p / 2 ^ k))
  | 0, _ => by
    show row.set p d = row.set (p / 2 ^ 0) (gt (row.set p d) (p / 2 ^ 0))
    rw [Nat.pow_zero, Nat.div_one, getD_set_self hp]
  | k + 1, hd => by
    have hd' : 2 ^ k ∣ row.length := Nat.dvd_trans (Nat.pow_dvd_pow 2 (Nat.le_succ k)) hd
    have ih := lev_set f row p d hp k hd'
    have e2 : p / 2 ^ (k + 1) = p / 2 ^ k / 2 := by rw [Nat.div_div_eq_div_mul, Nat.pow_succ]
    have hl : p / 2 ^ (k + 1) < (prs f (lev f (row.set p d) k)).length := by
      rw [prs_len, lev_len, List.length_set, Nat.div_div_eq_div_mul, ← Nat.pow_succ]
      exact Nat.div_lt_div_of_lt_of_dvd hd hp
    show prs f (lev f (row.set p d) k) = (prs f (lev f row k)).set (p / 2 ^ (k + 1)) (gt (prs f (lev f (row.set p d) k)) (p / 2 ^ (k + 1)))
    have hs := prs_set f (lev f row k) (p / 2 ^ k) (gt (lev f (row.set p d) k) (p / 2 ^ k))
    rw [← ih] at hs
    rw [e2] at hl ⊢
    rw [prs_getD _ _ _ (by rw [prs_len] at hl; exact hl)]
    exact hs
theorem prs_in (f : Int → Int → Int) (P : Int → Prop) (row : List Int) (h : ∀ x y, P x → P y → P (f x y)) (hr : ∀ x ∈ row, P x) : ∀ x ∈ prs f row, P x := by
  intro x hx
  simp only [prs, List.mem_map, List.mem_range] at hx
  obtain ⟨k, hk, rfl⟩ := hx
  have a1 : 2 * k < row.length := by omega
  have a2 : 2 * k + 1 < row.length := by omega
  have e1 : gt row (2 * k) = row[2 * k] := by simp [gt, List.getD, a1]
  have e2 : gt row (2 * k + 1) = row[2 * k + 1] := by simp [gt, List.getD, a2]
  rw [e1, e2]
  exact h _ _ (hr _ (List.getElem_mem a1)) (hr _ (List.getElem_mem a2))
theorem lev_in (f : Int → Int → Int) (P : Int → Prop) (row : List Int) (h : ∀ x y, P x → P y → P (f x y)) (hr : ∀ x ∈ row, P x) : ∀ k, ∀ x ∈ lev f row k, P x
  | 0 => hr
  | k + 1 => prs_in f P _ h (lev_in f P row h hr k)
/-! ### rows of numbers compared -/
theorem lay_ints : ∀ ns : List Int, PyData.canLayAll0 (ns.map PyData.int) = true
  | [] => by simp
  | n :: ns => by simp [lay_ints ns]
theorem dep_ints : ∀ ns : List Int, PyData.depthAll (ns.map PyData.int) = 0
  | [] => by simp
  | n :: ns => by simp [dep_ints ns]
theorem eqvA_ints : ∀ ns ms : List Int, PyData.eqvAll (ns.map PyData.int) (ms.map PyData.int) = decide (ns = ms)
  | [], [] => by simp
  | [], m :: ms => by simp
  | n :: ns, [] => by simp
  | n :: ns, m :: ms => by
    rw [List.map_cons, List.map_cons, eqvA_cc, eqv_ii, eqvA_ints ns ms]
    by_cases h1 : n = m <;> by_cases h2 : ns = ms <;> simp [h1, h2]
/-- a comprehension over an object of the store that changes no store -/
theorem lc_cell_at {c n : Nat} {ws : List W} {g : MG} {t : MT} {e : ME} {s : Slo} {st : Sto} (p : W → Bool) (q : W → W) (h0 : st[c]? = some (.lst ws)) (hn : ws.length = n)
    (h : ∀ w ∈ ws, ∃ s2, g w s st = some (s2, st) ∧ t s2 st = .ok (p w) st ∧ (p w = true → e s2 st = .ok (q w) st)) :
    ∀ (k i : Nat) (acc : List W), i + k = ws.length → acc.length + k ≤ sizeLine →
      mLcLoop (.cell c n) g t e s k i acc st = .ok (acc ++ ((ws.drop i).filter p).map q) st
  | 0, i, acc, e, hl => by
    have e' : i = ws.length := by omega
    subst e'
    simp only [mLcLoop, Src.fine, h0, hn, decide_true, if_true]
    rw [← hn, List.drop_length, List.filter_nil, List.map_nil, List.append_nil]
  | k + 1, i, acc, e, hl => by
    have hi : i < ws.length := by omega
    obtain ⟨s2, hg, ht, he⟩ := h ws[i] (List.getElem_mem hi)
    have hd := List.drop_eq_getElem_cons hi
    simp only [mLcLoop, Src.fine, Src.at, h0, hn, decide_true, if_true, List.getElem?_eq_getElem hi, hg, ht]
    cases hp : p ws[i] with
    | true =>
      simp only [he hp]
      rw [if_pos (by omega), lc_cell_at p q h0 hn h k (i + 1) _ (by omega) (by simp; omega)]
      rw [hd, List.filter_cons, hp]
      simp only [if_true, List.map_cons, List.append_assoc, List.singleton_append]
    | false =>
      simp only []
      rw [lc_cell_at p q h0 hn h k (i + 1) _ (by omega) (by omega), hd, List.filter_cons, hp]
      simp only [Bool.false_eq_true, if_false]
theorem filter_yes {α : Type} (l : List α) : (l.filter fun _ => true) = l := List.filter_eq_self.mpr fun _ _ => rfl
@[simp high] theorem aT (S T : Sto) (k : Nat) : (S ++ T)[S.length + k]? = T[k]? := by rw [List.getElem?_append_right (by omega)]; congr 1; omega
@[simp high] theorem a0 (S T : Sto) : (S ++ T)[S.length]? = T[0]? := aT S T 0
@[simp high] theorem sT (S T : Sto) (k : Nat) (x : Ob) : (S ++ T).set (S.length + k) x = S ++ T.set k x := by rw [List.set_append_right _ _ (by omega)]; congr 2; omega
@[simp high] theorem s0 (S T : Sto) (x : Ob) : (S ++ T).set S.length x = S ++ T.set 0 x := sT S T 0 x
end Mi
/-! The mirror layer, part R: reading by `simp`: fields, places, sizes. -/
namespace Mi
open PySem L2
@[simp] theorem beq_lit (a b : String) : (Str.ofString a == Str.ofString b) = decide (a = b) := by
  by_cases h : a = b
  · subst h; simp
  · have h2 : Str.ofString a ≠ Str.ofString b := fun e => h ((ofString_iff a b).mp e)
    simp [h]
@[simp] theorem lk_nil (k : Str) : List.lookup k ([] : Fl) = none := rfl
@[simp] theorem lk_lit (a b : String) (w : W) (r : Fl) : List.lookup (Str.ofString a) ((Str.ofString b, w) :: r) = if a = b then some w else List.lookup (Str.ofString a) r := by
  rw [List.lookup_cons, beq_lit]
  by_cases h : a = b <;> simp [h]
theorem atI_nat {α : Type} (xs : List α) (k : Nat) : atI xs (k : Int) = xs[k]? := by
  by_cases h : k < xs.length
  · rw [List.getElem?_eq_getElem h]
    exact atI_nn (by omega) (by simp [h])
  · have h2 : ixN xs.length (k : Int) = none := by
      simp only [ixN, if_pos (show (0 : Int) ≤ (k : Int) by omega)]
      rw [if_neg (by omega)]
    rw [atI, h2, List.getElem?_eq_none (by omega)]; rfl
@[simp] theorem atI_ofNat {α : Type} (xs : List α) (k : Nat) : atI xs (no_index (OfNat.ofNat k : Int)) = xs[(OfNat.ofNat k : Nat)]? := atI_nat xs k
theorem atI_last {α : Type} (xs : List α) : atI xs (-1) = xs.getLast? := by
  cases xs with
  | nil => rfl
  | cons x xs =>
    have h : ixN (x :: xs).length (-1) = some xs.length := by
      simp only [ixN, List.length_cons]
      rw [if_neg (by omega), if_pos (by omega)]
      congr 1
      omega
    rw [atI, h, List.getLast?_eq_getElem?]
    simp
theorem ixN_nat (n k : Nat) : ixN n (k : Int) = if k < n then some k else none := by
  by_cases h : k < n
  · simp only [ixN, if_pos (show (0 : Int) ≤ (k : Int) by omega), if_pos (show (k : Int) < (n : Int) by omega), if_pos h, Int.toNat_natCast]
  · simp only [ixN, if_pos (show (0 : Int) ≤ (k : Int) by omega), if_neg (show ¬ (k : Int) < (n : Int) by omega), if_neg h]
@[simp] theorem ixN_ofNat (n k : Nat) : ixN n (no_index (OfNat.ofNat k : Int)) = if (OfNat.ofNat k : Nat) < n then some (OfNat.ofNat k : Nat) else none := ixN_nat n k
theorem ixN_last (n : Nat) : ixN n (-1) = if 0 < n then some (n - 1) else none := by
  by_cases h : 0 < n
  · simp only [ixN]
    rw [if_neg (by omega), if_pos (by omega), if_pos h]
    congr 1
    omega
  · simp only [ixN]
    rw [if_neg (by omega), if_neg (by omega), if_neg h]
@[simp] theorem log2_lt {n : Nat} (h : n < 18446744073709551616) : n.log2 < 9000 := by
  by_cases h0 : n = 0
  · subst h0; decide
  · have := (Nat.log2_lt (n := n) (k := 64) h0).mpr (by omega)
    omega
/-! ### the store -/
theorem rd_self {st : Sto} {i : Nat} {o : Ob} (h : (st[i]?).isSome = true) : (st.set i o)[i]? = some o := by
  rw [List.getElem?_set_self]
  by_cases hl : i < st.length
  · exact hl
  · rw [List.getElem?_eq_none (by omega)] at h; cases h
theorem rd_app {st T : Sto} {i : Nat} (h : (st[i]?).isSome = true) : (st ++ T)[i]? = st[i]? := by
  by_cases hl : i < st.length
  · rw [List.getElem?_append_left hl]
  · rw [List.getElem?_eq_none (by omega)] at h; cases h
theorem st_app {st T : Sto} {i : Nat} {o : Ob} (h : (st[i]?).isSome = true) : (st ++ T).set i o = st.set i o ++ T := by
  by_cases hl : i < st.length
  · rw [List.set_append_left _ _ hl]
  · rw [List.getElem?_eq_none (by omega)] at h; cases h
/-- nothing but the objects at A has changed; new ones may stand behind -/
def Only (A : List Nat) (st st' : Sto) : Prop := st.length ≤ st'.length ∧ ∀ i, i < st.length → i ∉ A → st'[i]? = st[i]?
theorem Only.refl (A : List Nat) (st : Sto) : Only A st st := ⟨Nat.le_refl _, fun _ _ _ => rfl⟩
theorem Only.trans {A B : List Nat} {s t u : Sto} (h : Only A s t) (k : Only B t u) (hb : ∀ i ∈ B, i < s.length → i ∈ A) : Only A s u :=
  ⟨Nat.le_trans h.1 k.1, fun i hi ha => (k.2 i (Nat.lt_of_lt_of_le hi h.1) fun z => ha (hb i z hi)).trans (h.2 i hi ha)⟩
theorem Only.mono {A B : List Nat} {s t : Sto} (h : Only A s t) (hb : ∀ i ∈ A, i < s.length → i ∈ B) : Only B s t := ⟨h.1, fun i hi n => h.2 i hi fun z => n (hb i z hi)⟩
theorem Only.rd {A : List Nat} {s t : Sto} (h : Only A s t) {i : Nat} {o : Ob} (e : s[i]? = some o) (n : i ∉ A) : t[i]? = some o := (h.2 i (List.getElem?_eq_some_iff.mp e).1 n).trans e
theorem Only.app (A : List Nat) (s T : Sto) : Only A s (s ++ T) := ⟨by simp, fun i hi _ => List.getElem?_append_left hi⟩
theorem Only.set {A : List Nat} {s : Sto} {i : Nat} {o : Ob} (h : i ∈ A) : Only A s (s.set i o) := ⟨by simp, fun j hj n => List.getElem?_set_ne fun e => n (by rw [← e]; exact h)⟩
theorem Sm.only {i : Nat} {a b : Sto} (h : Sm i a b) : Only [i] a b := ⟨by rw [h.1]; exact Nat.le_refl _, fun k _ n => h.2.1 k fun e => n (by simp [e])⟩
/-! ### walks over a written range -/
theorem mLc_rng1 {a : MA} {k : Int} {n : NT} {t : MT} {e : ME} {vs : List Nat} {s : Slo} {st st1 : Sto} (ha : a s st = .ok [.int k] st1) (h0 : 0 ≤ k) (h1 : k < 4611686018427387904) :
    mLc (mIRng1 a) n t e vs s st = (mLcLoop (.vals (rngW 0 k.toNat)) (NT.m n) t e (wipeW s vs) k.toNat 0 [] st1).bind fun ws st2 => .ok (.lst ws) st2 := by
  simp [ha]
  rw [if_pos (by omega)]
  simp
theorem rng1_ok {a : MA} {k : Int} {s : Slo} {st st1 : Sto} (ha : a s st = .ok [.int k] st1) (h0 : 0 ≤ k) (h1 : k < 4611686018427387904) : mIRng1 a s st = .ok (.vals (rngW 0 k.toNat)) st1 := by
  simp [ha]
  omega
theorem rng1_nat {a : MA} {k : Nat} {s : Slo} {st st1 : Sto} (ha : a s st = .ok [.int (k : Int)] st1) (h1 : k < 1000000000) : mIRng1 a s st = .ok (.vals (rngW 0 k)) st1 := by
  have h := rng1_ok ha (by omega) (by omega)
  rwa [Int.toNat_natCast] at h
theorem mFor_vals {it : MI} {g : MG} {b : MS} {s : Slo} {st st1 : Sto} {ws : List W} {n : Nat} {o : SO} (h : it s st = .ok (.vals ws) st1) (hn : ws.length = n) (k : mLoop (.vals ws) g b n 0 s st1 = o) : mFor it g b s st = o := by
  subst hn
  simp only [mFor, h, Out.run, Src.len_vals, k]
theorem mFor_rng1 {a : MA} {k : Int} {g : MG} {b : MS} {s : Slo} {st st1 : Sto} (ha : a s st = .ok [.int k] st1) (h0 : 0 ≤ k) (h1 : k < 4611686018427387904) :
    mFor (mIRng1 a) g b s st = mLoop (.vals (rngW 0 k.toNat)) g b k.toNat 0 s st1 := by
  simp [ha]
  rw [if_pos (by omega)]
  simp
end Mi
namespace Mi
open PySem L2
theorem mLc_of {it : MI} {n : NT} {t : MT} {e : ME} {vs : List Nat} {s : Slo} {st st1 : Sto} {ws : List W} (hi : it s st = .ok (.vals ws) st1) (hl : ws.length ≤ 1000000) (p : W → Bool) (q : W → W)
    (h : ∀ w ∈ ws, ∃ s2, NT.m n w (wipeW s vs) st1 = some (s2, st1) ∧ t s2 st1 = .ok (p w) st1 ∧ (p w = true → e s2 st1 = .ok (q w) st1)) : mLc it n t e vs s st = .ok (.lst ((ws.filter p).map q)) st1 := by
  simp only [mLc, hi, Out.bind, Src.len_vals, lc_vals p q (show ws.length ≤ sizeLine by rw [sizeLine_eq]; omega) h]
theorem mem_rng {lo : Int} {n : Nat} {w : W} (h : w ∈ rngW lo n) : ∃ k : Nat, k < n ∧ w = .int (lo + (k : Int)) := by
  simp only [rngW, List.mem_map, List.mem_range] at h
  obtain ⟨k, hk, rfl⟩ := h
  exact ⟨k, hk, rfl⟩
theorem mem_rng0 {n : Nat} {w : W} (h : w ∈ rngW 0 n) : ∃ k : Nat, k < n ∧ w = .int (k : Int) := by
  obtain ⟨k, hk, rfl⟩ := mem_rng h
  exact ⟨k, hk, by rw [Int.zero_add]⟩
/-! ### rows of True -/
theorem toPys_rep (b : Bool) : ∀ n : Nat, toPys (List.replicate n (.bl b)) = some (List.replicate n (.bool b))
  | 0 => rfl
  | n + 1 => by simp [List.replicate_succ, toPys, toPys_rep b n]
theorem lay_rep (b : Bool) : ∀ n : Nat, PyData.canLayAll0 (List.replicate n (.bool b)) = true
  | 0 => by simp
  | n + 1 => by simp [List.replicate_succ, lay_rep b n]
theorem dep_rep (b : Bool) : ∀ n : Nat, PyData.depthAll (List.replicate n (.bool b)) = 0
  | 0 => by simp
  | n + 1 => by simp [List.replicate_succ, dep_rep b n]
theorem isIn_true (st : Sto) (ws : List W) (h : ∀ w ∈ ws, w = .bl true) : isIn (.bl false) (.lst ws) st = some false := by
  rw [List.eq_replicate_of_mem h]
  generalize ws.length = n
  simp [isIn, toPyS, toPy, toPys_rep, lay_rep, dep_rep]
theorem toPy_ints (ns : List Int) : toPy (.tup (ns.map W.int)) = some (.tuple (ns.map PyData.int)) := by simp
/-- two tuples of numbers compared -/
theorem mEq_ints (ns ms : List Int) (st : Sto) : mEq (.tup (ns.map W.int)) (.tup (ms.map W.int)) st = .ok (.bl (decide (ns = ms))) st := by
  simp [lay_ints, dep_ints, eqvA_ints]
theorem mNe_ints (ns ms : List Int) (st : Sto) : mNe (.tup (ns.map W.int)) (.tup (ms.map W.int)) st = .ok (.bl (!decide (ns = ms))) st := by
  simp [lay_ints, dep_ints, eqvA_ints]
/-- a list in which all that is told of is one thing -/
theorem one_le {α : Type} (p : α → Bool) (a : α) : ∀ l : List α, l.Nodup → (∀ x ∈ l, p x = true → x = a) → (l.filter p).length ≤ 1
  | [], _, _ => by simp
  | x :: l, hn, h => by
    obtain ⟨h1, h2⟩ := List.nodup_cons.mp hn
    rw [List.filter_cons]
    split
    · rename_i hp
      have e := h x (by simp) hp
      subst e
      have : l.filter p = [] := List.filter_eq_nil_iff.mpr fun y hy hp => h1 (by rw [← h y (by simp [hy]) hp]; exact hy)
      rw [this]; simp
    · exact one_le p a l h2 fun y hy => h y (by simp [hy])
end Mi
namespace Mi
open PySem L2
theorem mEq_ii (i j : Int) (st : Sto) : mEq (.int i) (.int j) st = .ok (.bl (decide (i = j))) st := by simp
theorem mNe_ii (i j : Int) (st : Sto) : mNe (.int i) (.int j) st = .ok (.bl (!decide (i = j))) st := by simp
/-- is a number among numbers (a list as a value) -/
theorem isIn_ints (x : Int) (ns : List Int) (st : Sto) : isIn (.int x) (.lst (ns.map W.int)) st = some (decide (x ∈ ns)) := by
  have h : (ns.map PyData.int).any (fun z => PyData.eqv z (.int x)) = decide (x ∈ ns) := by
    induction ns with
    | nil => simp
    | cons n ns ih =>
      rw [List.map_cons, List.any_cons, ih, eqv_ii]
      by_cases h1 : x = n <;> by_cases h2 : x ∈ ns <;> simp [h1, h2, eq_comm]
  simp [isIn, lay_ints, dep_ints, h]
theorem mIn_ints (x : Int) (ns : List Int) (st : Sto) : mIn (.int x) (.lst (ns.map W.int)) st = .ok (.bl (decide (x ∈ ns))) st := by
  simp only [mIn, isIn_ints]
theorem mNotIn_ints (x : Int) (ns : List Int) (st : Sto) : mNotIn (.int x) (.lst (ns.map W.int)) st = .ok (.bl (!decide (x ∈ ns))) st := by
  simp only [mNotIn, isIn_ints]
theorem mEq_lints (ns ms : List Int) (st : Sto) : mEq (.lst (ns.map W.int)) (.lst (ms.map W.int)) st = .ok (.bl (decide (ns = ms))) st := by
  simp [lay_ints, dep_ints, eqvA_ints]
theorem mNe_lints (ns ms : List Int) (st : Sto) : mNe (.lst (ns.map W.int)) (.lst (ms.map W.int)) st = .ok (.bl (!decide (ns = ms))) st := by
  simp [lay_ints, dep_ints, eqvA_ints]
end Mi
namespace Mi
open PySem L2
/-! ### statement by statement -/
theorem seq_nx {a b : MS} {s s1 : Slo} {st st1 : Sto} {o : SO} (h : a s st = .nx s1 st1) (k : b s1 st1 = o) : mSeq a b s st = o := by
  simp only [mSeq, h, SO.then, k]
theorem seq_rt {a b : MS} {s : Slo} {st st1 : Sto} {w : W} (h : a s st = .rt w st1) : mSeq a b s st = .rt w st1 := by
  simp only [mSeq, h, SO.then]
theorem def_rt {n k : Nat} {body : MS} {ws : List W} {st st' : Sto} {w : W} (hl : ws.length = n) (h : body (ws.map some ++ List.replicate k none) st = .rt w st') : mDef n k body ws st = .ok w st' := by
  simp only [mDef, hl, if_true, h]
theorem def_nx {n k : Nat} {body : MS} {ws : List W} {st st' : Sto} {s' : Slo} (hl : ws.length = n) (h : body (ws.map some ++ List.replicate k none) st = .nx s' st') : mDef n k body ws st = .ok .non st' := by
  simp only [mDef, hl, if_true, h]
end Mi
namespace Mi
open PySem L2
theorem mLc_cell {it : MI} {nt : NT} {t : MT} {e : ME} {vs : List Nat} {s : Slo} {st st1 : Sto} {c n : Nat} {ws : List W} (hi : it s st = .ok (.cell c n) st1) (h0 : st1[c]? = some (.lst ws)) (hn : ws.length = n) (hl : n ≤ 1000000) (p : W → Bool) (q : W → W)
    (h : ∀ w ∈ ws, ∃ s2, NT.m nt w (wipeW s vs) st1 = some (s2, st1) ∧ t s2 st1 = .ok (p w) st1 ∧ (p w = true → e s2 st1 = .ok (q w) st1)) : mLc it nt t e vs s st = .ok (.lst ((ws.filter p).map q)) st1 := by
  have hc : (Src.cell c n).len = n := rfl
  have z := lc_cell_at p q h0 hn h n 0 [] (by omega) (by rw [sizeLine_eq]; simp; omega)
  simp only [mLc, hi, Out.bind, hc, z, List.nil_append, List.drop_zero]
end Mi
namespace Mi
open PySem L2
theorem app_lt0 {α : Type} {s t : List α} {i : Nat} {x : α} (h : s[i]? = some x) : (s ++ t)[i]? = some x := by
  rw [List.getElem?_append_left (List.getElem?_eq_some_iff.mp h).1]; exact h
end Mi
/-! The mirror layer, part X: own errors: raise X(), try: one call, except X: suite. -/
namespace Mi
open PySem L2 PyProof.Rows
/-- what the module's top says of an own class of errors without __init__ -/
structure XCls (K : PySem.W.Frag) (mg : Str → Option Value) (x : Str) (C : Addr) : Prop where
  g : mg x = some (.ref C)
  x : PySem.W.excIn K C [.type "ValueError", .type "Exception", .type "BaseException", .type "object"] "ValueError.__new__" = true
  k : PySem.W.keepIn K (.ref C) = true
  b : PySem.W.subIn K (.ref C) (.type "BaseException") = some true
  t : PySem.W.typeIn K (.ref C) = some (.type "type")
/-- X() -/
theorem pmk_own0 {X : Cx} {C : Addr} {x : Str} {p pos : Pos} (T : XCls X.K X.mg x C) (hg : Gl X x) (hdb : (x == ("__debug__" : Str)) = false := by decide) : PMk X (.Call (.Name x p) [] [] pos) (fun _ H Q => Q (.ref C) none H) := by
  intro pins s σ H Q I h
  refine wpAny_Call_Name_kw (ld_glob I hg T.g ?_ hdb)
  refine PySem.W.callWith_K0 I.kIn T.k ?_
  obtain ⟨bm, N, nm, qn, bs, hdct, sn, sub, ab, col, dd, k0, k1, k2, k3, k5, mN, hC, hN, hni, T2⟩ := exc_obj I.kIn T.x
  refine wpAny_call_exc_subT PySem.F.excBase_ValueError T2 hC hN hni (fun h' e hm => ?_) (Nat.zero_le _)
  exact mk_of I hm (raises_own T.b T.t) h (I.hok.gone hm.new)
@[simp] def mRaise (c : Nat) : MS := fun _ st => .exc c [] st
theorem js_raise0 {X : Cx} {Cl : Nat → Addr} {E : XK} {c : Nat} {x : Str} {p pos pos' : Pos} (T : XCls X.K X.mg x (Cl c)) (tk : Takes X (fun cls d _ H => E cls d H)) (hc : X.calm = true := by rfl) (hg : Gl X x := by rfl) (hdb : (x == ("__debug__" : Str)) = false := by decide) :
    JS X Cl E (.Raise (some (.Call (.Name x p) [] [] pos)) none pos') (mRaise c) :=
  ⟨_, ps_raise hc tk (pmk_own0 T hg hdb), fun β H σ s st D hr hs h => h β H none (Ext.refl _ β H) hr (.inl ⟨rfl, rfl⟩)⟩
/-! ### a call in a try's body -/
structure JC (X : Cx) (Cl : Nat → Addr) (W : WX) (e : Expr) (m : ME) : Prop where
  ex : ∃ t, PE X e t ∧ ∀ β H σ s st Q, HR X.K Cl β H st → SR X.K β H s σ → Po X.K Cl (WE W σ) β H Q (m s st) → t σ H Q
@[simp] def mCallX (n : Nat) (m : MF) (a : MA) : ME := fun s st => match a s st with
  | .ok ws st1 => if ws.length = n then m ws st1 else .stuck
  | _ => .stuck
theorem jc_call {X : Cx} {Cl : Nat → Addr} {W : WX} {k n f : Nat} {fd : FuncData} {ps : List Str} {m : MF} {x : Str} {e : Expr} {es : List Expr} {mr : MA} {p pos : Pos} (F : FnOk X.prog X.w X.K X.mg X.base (L2.CX X.prog X.w) k f fd ps (spM X.K Cl n m)) (tk : Takes X W) (hr : Room k X.A) (hm : X.mg x = some (.ref f)) (hk : PySem.W.keepIn X.K (.ref f) = true) (hb : Binds X.K fd ps [])
    (ha : JA X Cl E0 (e :: es) mr) (hg : Gl X x := by rfl) (hdb : (x == ("__debug__" : Str)) = false := by decide) (he : starEach (e :: es) X.env = (false, eval e X.env) :: starEach es X.env := by rfl) (hpl : (backTo pos (starEach es X.env)).any (·.1) = false := by rfl) :
    JC X Cl W (.Call (.Name x p) (e :: es) [] pos) (mCallX n m mr) := by
  obtain ⟨t, pr, q⟩ := ha.ex
  refine ⟨_, pe_callS F hr hg hm hk hb (fun σ => passAt tk σ) pr hdb he hpl, fun β H σ s st Q hr hs h => ?_⟩
  refine q β H σ s st _ hr hs ?_
  simp only [mCallX] at h
  cases ei : mr s st with
  | stuck => rw [ei] at h; exact h
  | exc c fs st1 => rw [ei] at h; exact h.elim
  | ok ws st1 =>
    rw [ei] at h
    intro β1 H1 vs e1 hr1 rv
    simp only at h
    split at h
    · rename_i hn
      exact ⟨by rw [← rv.length]; exact hn, β1, ws, st1, hr1, rv, PoG.ext e1 h⟩
    · exact h.elim
/-- the reading of a try's body, a single statement -/
def tBody (K : PySem.W.Frag) (Cl : Nat → Addr) (m : MS) (W : WX) : TS := fun D σ H => ∃ β s st, HR K Cl β H st ∧ SR K β H s σ ∧ PoS K Cl (WE W σ) D β H (m s st)
structure JB (X : Cx) (Cl : Nat → Addr) (W : WX) (es : List Stmt) (m : MS) : Prop where
  ps : PSs X es (tBody X.K Cl m W)
theorem pss_imp {X : Cx} {es : List Stmt} {t u : TS} (h : PSs X es t) (k : ∀ D σ H, u D σ H → t D σ H) : PSs X es u := ⟨fun pins s σ H D I q => h.run pins s σ H D I (k D σ H q)⟩
section
variable {X : Cx} {Cl : Nat → Addr} {W : WX} {e : Expr} {m : ME} {pos : Pos}
theorem jb_ret (h : JC X Cl W e m) : JB X Cl W [.Return (some e) pos] (mRet m) := by
  obtain ⟨t, p, q⟩ := h.ex
  refine ⟨pss_imp (pss_one (ps_ret p)) fun D σ H ⟨β, s, st, hr, hs, h⟩ => q β H σ s st _ hr hs ?_⟩
  exact h.run fun w st1 β1 H1 v _ e1 hr1 rv h1 => h1 β1 H1 v (Ext.refl _ _ _) hr1 rv
theorem jb_expr (h : JC X Cl W e m) (hsw : swapsWith e none pos.line X.env = pure false := by rfl) : JB X Cl W [.Expr e pos] (mDrop m) := by
  obtain ⟨t, p, q⟩ := h.ex
  refine ⟨pss_imp (pss_one (ps_expr p hsw)) fun D σ H ⟨β, s, st, hr, hs, h⟩ => q β H σ s st _ hr hs ?_⟩
  exact h.run fun w st1 β1 H1 v _ e1 hr1 rv h1 => PoS.val h1 hr1 (hs.ext e1)
theorem jb_set (i : Nat) {x : Str} {pos' : Pos} (hN : X.N.Nodup) (h : JC X Cl W e m) (hi : X.N[i]? = some x := by rfl) (hx : Loc X.env.scope x := by first | exact .inl rfl | exact .inr rfl) (hsw : swapsWith e (some (.Name x pos')) pos.line X.env = pure false := by rfl) (hf : X.fn x = true ∨ X.env.scope.names.lookup x = some .local := by first | exact .inl rfl | exact .inr rfl) :
    JB X Cl W [.Assign [.Name x pos'] e pos] (mAsg m (mGN i)) := by
  obtain ⟨t, p, q⟩ := h.ex
  refine ⟨pss_imp (pss_one (ps_set hN hi hx p hsw hf)) fun D σ H ⟨β, s, st, hr, hs, h⟩ => q β H σ s st _ hr hs ?_⟩
  exact h.run fun w st1 β1 H1 v _ e1 hr1 rv h1 => PoS.val h1 hr1 ((hs.ext e1).set rv)
end
/-! ### try: one call / except X: suite -/
/-- which errors a clause takes -/
def tabN : Nat → Option Bool := fun _ => none
def tabC (c : Nat) (b : Bool) (r : Nat → Option Bool) : Nat → Option Bool := fun n => if n = c then some b else r n
theorem tabN_ok {K : PySem.W.Frag} {Cl : Nat → Addr} {hc : Nat} : ∀ c b, tabN c = some b → PySem.W.exmOne K (.ref (Cl c)) (.ref (Cl hc)) = some b := fun c b h => by cases h
theorem tabC_ok {K : PySem.W.Frag} {Cl : Nat → Addr} {hc c0 : Nat} {b0 : Bool} {r : Nat → Option Bool} (h0 : PySem.W.exmOne K (.ref (Cl c0)) (.ref (Cl hc)) = some b0) (hr : ∀ c b, r c = some b → PySem.W.exmOne K (.ref (Cl c)) (.ref (Cl hc)) = some b) : ∀ c b, tabC c0 b0 r c = some b → PySem.W.exmOne K (.ref (Cl c)) (.ref (Cl hc)) = some b := fun c b h => by
  unfold tabC at h
  split at h
  · rename_i e
    subst e
    cases h
    exact h0
  · exact hr c b h
/-- a suite that raises is not served -/
@[simp] def calmS : SO → SO
  | .exc _ _ _ => .stuck
  | o => o
@[simp] def mTry1 (body : MS) (sub : Nat → Option Bool) (suite : MS) : MS := fun s st => match body s st with
  | .exc c fs st1 => match sub c with
    | some true => calmS (suite s st1)
    | some false => .exc c fs st1
    | none => .stuck
  | o => o
theorem js_try1 {X : Cx} {Cl : Nat → Addr} {E : XK} {hc : Nat} {x : Str} {body suite : List Stmt} {b₀ : Stmt} {np pos pos' : Pos} {mb ms : MS} {sub : Nat → Option Bool} (hm : X.mg x = some (.ref (Cl hc))) (tk : Takes X (fun cls d _ H => E cls d H))
    (hb : ∀ (W : WX) (pn : List (Addr × Obj)) (xe : Value → Shared → Prop), Takes (X.tr pn xe) W → JB (X.tr pn xe) Cl W body mb)
    (hsu : ∀ (a : Addr) (oe : Obj) (pn : List (Addr × Obj)), JSs (X.suite a ((a, oe) :: pn)) Cl E0 (b₀ :: suite) ms)
    (hsub : ∀ c b, sub c = some b → PySem.W.exmOne X.K (.ref (Cl c)) (.ref (Cl hc)) = some b)
    (hs : X.stack = X.env :: X.outer := by rfl) (hf : X.env.frame = some X.env.locals := by rfl) (hg : Gl X x := by rfl) (hdb : (x == ("__debug__" : Str)) = false := by decide) :
    JS X Cl E (.Try body [.ExceptHandler (some (.Name x np)) none (b₀ :: suite) pos'] [] [] pos) (mTry1 mb sub ms) := by
  refine ⟨_, ps_try_only (tb := fun W => tBody X.K Cl mb W) (ts := fun _ _ _ D σ H => ∃ β s st, HR X.K Cl β H st ∧ SR X.K β H s σ ∧ PoS X.K Cl E0 D β H (ms s st)) hs hf ⟨hg, hdb, .inl hm⟩ tk (fun W pn xe t _ => (hb W pn xe t).ps) (fun a oe cls d pn _ _ => ?_), fun β H σ s st D hr hs h => ⟨β, s, st, hr, hs, ?_⟩⟩
  · obtain ⟨t, p, q⟩ := (hsu a oe pn).ex
    exact pss_imp p fun D σ H ⟨β, s, st, hr, hs, h⟩ => q β H σ s st D hr hs h
  · simp only [mTry1] at h
    cases ei : mb s st with
    | exc c fs st1 =>
      rw [ei] at h
      simp only at h
      intro β1 H1 d e1 hr1 rx
      cases es : sub c with
      | none => rw [es] at h; exact h.elim
      | some b =>
        rw [es] at h
        refine ⟨b, hsub c b es, fun hb a ha => ?_, fun hb => ?_⟩
        · subst hb
          have h2 := PoS.ext e1 h
          refine ⟨β1, s, st1, hr1, hs.ext e1, ?_⟩
          simp only at h2
          cases eo : ms s st1 with
          | exc c2 fs2 st2 => rw [eo] at h2; exact h2.elim
          | nx s2 st2 => rw [eo] at h2; exact h2
          | rt w st2 => rw [eo] at h2; exact h2
          | bk s2 st2 => rw [eo] at h2; exact h2
          | ct s2 st2 => rw [eo] at h2; exact h2
          | stuck => rw [eo] at h2; exact h2
        · subst hb
          exact h β1 H1 d e1 hr1 rx
    | nx s1 st1 => rw [ei] at h; exact h
    | rt w st1 => rw [ei] at h; exact h
    | bk s1 st1 => rw [ei] at h; exact h
    | ct s1 st1 => rw [ei] at h; exact h
    | stuck => rw [ei] at h; exact h
/-! ### statement by statement -/
theorem defX_rt {n k : Nat} {body : MS} {ws : List W} {st st' : Sto} {w : W} (hl : ws.length = n) (h : body (ws.map some ++ List.replicate k none) st = .rt w st') : mDefX n k body ws st = .ok w st' := by
  simp only [mDefX, hl, if_true, h]
theorem defX_nx {n k : Nat} {body : MS} {ws : List W} {st st' : Sto} {s' : Slo} (hl : ws.length = n) (h : body (ws.map some ++ List.replicate k none) st = .nx s' st') : mDefX n k body ws st = .ok .non st' := by
  simp only [mDefX, hl, if_true, h]
theorem defX_exc {n k c : Nat} {fs : Fl} {body : MS} {ws : List W} {st st' : Sto} (hl : ws.length = n) (h : body (ws.map some ++ List.replicate k none) st = .exc c fs st') : mDefX n k body ws st = .exc c fs st' := by
  simp only [mDefX, hl, if_true, h]
theorem seq_exc {a b : MS} {s : Slo} {st st1 : Sto} {c : Nat} {fs : Fl} (h : a s st = .exc c fs st1) : mSeq a b s st = .exc c fs st1 := by
  simp only [mSeq, h, SO.then]
end Mi
/-! The mirror layer, part Y: try with several clauses, named or not; errors with fields of their own; what a suite asks of its error. -/
namespace Mi
open PySem L2
open PyProof.Rows hiding St

/-! ### the clauses of a try -/
/-- an error stands caught in this frame; h3 is the heap at which its clauses are asked -/
structure Got (X : Cx) (pins : List (Addr × Obj)) (σ : St) (H : Hp) (s : Shared) (a : Addr) (cls : Value) (d : Option Addr) (B : Heap) (sI : Shared) (h3 : Heap) : Prop where
  inv : Inv X pins σ H sI
  low : ∀ b o, sI.heap.get? b = some o → b ∉ frs X.stack → B.get? b = some o
  up : sI.heap.UpToSlots h3
  os : s.os = sI.os
  ag : AllBare s.gens
  fl : HandSPX.FlyingZ B (X.env :: X.outer) a (Zc cls d) h3
  na : H a = none
theorem Got.enter {X : Cx} {pins : List (Addr × Obj)} {σ : St} {H : Hp} {s sI : Shared} {a : Addr} {cls : Value} {d : Option Addr} {B h3 h4 : Heap} (G : Got X pins σ H s a cls d B sI h3) (hf : X.env.frame = some X.env.locals)
    (fl : HandSPX.FlyingZ B (X.env :: X.outer) a (Zc cls d) h4) (up : h3.UpToSlots h4) : ∃ oe, Zc cls d oe ∧ (∃ vs, oe.data = .fields vs) ∧ h4.get? a = some oe ∧ Inv X pins σ H { s with heap := h4 } ∧ Inv (X.suite a ((a, oe) :: (X.pn ++ pins))) [] σ H { s with heap := h4 } := by
  have J : Inv X pins σ H { s with heap := h4 } := G.inv.landed G.low fl.1 (G.up.trans up) G.os G.ag
  obtain ⟨oe, vs, he, hz, hd⟩ := fl.there
  have out : a ∉ frs (X.env :: X.outer) := fun hm => by
    obtain ⟨_, o2, g2, nf⟩ := fl.2.2.1.mem hm
    have : oe = o2 := Option.some.inj (he.symm.trans g2)
    exact nf vs (this ▸ hd)
  have n1 : a ≠ X.env.locals := fun z => out (List.mem_filterMap.mpr ⟨X.env, List.mem_cons_self, hf.trans (congrArg some z.symm)⟩)
  have n2 : a ∉ X.fs := fun hm => by
    obtain ⟨e2, m2, q2⟩ := List.mem_filterMap.mp hm
    exact out (List.mem_filterMap.mpr ⟨e2, List.mem_cons_of_mem _ m2, q2⟩)
  exact ⟨oe, hz, ⟨vs, hd⟩, he, J, J.suite he hd G.na n1 n2⟩
/-- what is wished of a suite's ends: its name goes -/
def Ends.drop (D : Ends) : Option Nat → Ends
  | none => D
  | some i => { nx := fun σ' H' => D.nx (σ'.set i none) H', rt := D.rt, bk := fun σ' H' => D.bk (σ'.set i none) H', ct := fun σ' H' => D.ct (σ'.set i none) H' }
def bindE (a : Addr) (σ : St) : Option Nat → St
  | none => σ
  | some i => σ.set i (some (.ref a))
abbrev Cls1 := Value × Option Nat × (Addr → Value → Option Addr → TS)
/-- what the clauses wish of an error, one after the other -/
def wList (K : PySem.W.Frag) (Wout : WX) (D : Ends) : List Cls1 → WX
  | [] => Wout
  | (c, i, ts) :: r => fun cls d σ H => ∃ b, PySem.W.exmOne K cls c = some b ∧ (b = true → ∀ a, H a = none → ts a cls d (Ends.drop D i) (bindE a σ i) H) ∧ (b = false → wList K Wout D r cls d σ H)
inductive Cla (X : Cx) : List ExceptHandler → List Cls1 → Prop
  | nil : Cla X [] []
  | cons0 {x : Str} {c : Value} {ts : Addr → Value → Option Addr → TS} {b₀ : Stmt} {suite : List Stmt} {np pos' : Pos} {hds : List ExceptHandler} {l : List Cls1} (hc : Names X x c)
      (hsu : ∀ (a : Addr) (oe : Obj) (cls : Value) (d : Option Addr) (pn : List (Addr × Obj)), Zc cls d oe → (∃ vs, oe.data = .fields vs) → PSs (X.suite a ((a, oe) :: pn)) (b₀ :: suite) (ts a cls d)) (r : Cla X hds l) :
      Cla X (.ExceptHandler (some (.Name x np)) none (b₀ :: suite) pos' :: hds) ((c, none, ts) :: l)
  | cons1 {x n : Str} {i : Nat} {c : Value} {ts : Addr → Value → Option Addr → TS} {b₀ : Stmt} {suite : List Stmt} {np pos' : Pos} {hds : List ExceptHandler} {l : List Cls1} (hc : Names X x c) (hi : X.N[i]? = some n) (hl : X.env.kindOf n = some .local)
      (hsu : ∀ (a : Addr) (oe : Obj) (cls : Value) (d : Option Addr) (pn : List (Addr × Obj)), Zc cls d oe → (∃ vs, oe.data = .fields vs) → PSs (X.suite a ((a, oe) :: pn)) (b₀ :: suite) (ts a cls d)) (r : Cla X hds l) :
      Cla X (.ExceptHandler (some (.Name x np)) (some n) (b₀ :: suite) pos' :: hds) ((c, some i, ts) :: l)
section
variable {X : Cx} {pins : List (Addr × Obj)} {σ : St} {H : Hp} {s sI : Shared} {a : Addr} {cls : Value} {d : Option Addr} {B h3 : Heap} {D : Ends} {Wout : WX}
/-- a clause's class is looked up and asked -/
theorem Got.asks (G : Got X pins σ H s a cls d B sI h3) (hf : X.env.frame = some X.env.locals) {x : Str} {c : Value} {np : Pos} {b : Bool} (hc : Names X x c) (hb : PySem.W.exmOne X.K cls c = some b) {Q : Bool → Shared → Prop} {E : Value → Shared → Prop}
    (hq : Q b { s with heap := h3 }) : wpAny (model X.prog X.w) (X.A.mark (some (.ref a))) (do let v ← eval (.Name x np) X.env; excMatches (.ref a) v) Q E { s with heap := h3 } := by
  obtain ⟨oe, hz, hd, he, J, S⟩ := G.enter hf G.fl (fun b o e n => ⟨o.slots, e⟩)
  have ty : PySem.W.Looks (model X.prog X.w) h3 (typeOf (.ref a)) cls := fun A Q E s2 keep k => wpAny_typeOf_ref (keep _ _ he) (by rw [hz.1]; exact k)
  have look := PySem.W.exm_one (M := model X.prog X.w) J.kIn ty hb
  refine wpAny_bind ?_
  obtain ⟨hg, hdbg, hm | ⟨hm, hv, hnn⟩⟩ := hc
  · exact ld_glob (X := X.suite a ((a, oe) :: (X.pn ++ pins))) S hg hm (look.here hq) hdbg
  · exact ld_blt (X := X.suite a ((a, oe) :: (X.pn ++ pins))) S hg hm hv (look.here hq) hnn hdbg
theorem Got.asks' (G : Got X pins σ H s a cls d B sI h3) (hf : X.env.frame = some X.env.locals) {x : Str} {c : Value} {np : Pos} (hc : Names X x c) {Q : Value → Shared → Prop} {E : Value → Shared → Prop} (hq : Q c { s with heap := h3 }) :
    wpAny (model X.prog X.w) (X.A.mark (some (.ref a))) (eval (.Name x np) X.env) Q E { s with heap := h3 } := by
  obtain ⟨oe, hz, hd, he, J, S⟩ := G.enter hf G.fl (fun b o e n => ⟨o.slots, e⟩)
  obtain ⟨hg, hdbg, hm | ⟨hm, hv, hnn⟩⟩ := hc
  · exact ld_glob (X := X.suite a ((a, oe) :: (X.pn ++ pins))) S hg hm hq hdbg
  · exact ld_blt (X := X.suite a ((a, oe) :: (X.pn ++ pins))) S hg hm hv hq hnn hdbg
theorem Got.look (G : Got X pins σ H s a cls d B sI h3) (hf : X.env.frame = some X.env.locals) {c : Value} {b : Bool} (hb : PySem.W.exmOne X.K cls c = some b) : PySem.W.Looks (model X.prog X.w) h3 (excMatches (.ref a) c) b := by
  obtain ⟨oe, hz, hd, he, J, S⟩ := G.enter hf G.fl (fun b o e n => ⟨o.slots, e⟩)
  exact PySem.W.exm_one (M := model X.prog X.w) J.kIn (fun A Q E s2 keep k => wpAny_typeOf_ref (keep _ _ he) (by rw [hz.1]; exact k)) hb
/-- no clause is left: the error flies on -/
theorem Got.none_left (G : Got X pins σ H s a cls d B sI h3) (hs : X.stack = X.env :: X.outer) (hf : X.env.frame = some X.env.locals) (tk : Takes X Wout) (w : Wout cls d σ H) :
    wpAny (model X.prog X.w) X.A (handleBy (.ref a) X.env []) (SP X pins D) X.xe { s with heap := h3 } := by
  refine wpAny_handleBy_nil ?_
  obtain ⟨-, -, -, oe, vs, T, oT, ts, he, -, hd, h1, -⟩ := id G.fl
  have off : wpAny (model X.prog X.w) X.A (setFlight (.ref a) X.env.frame) (fun _ s4 => wpAny (model X.prog X.w) X.A (throw (.ref a) : Sem Flow) (SP X pins D) X.xe s4) X.xe { s with heap := h3 } := by
    rw [hf]
    exact HandSPX.setFlight_upZ G.fl fun h4 held up4 => wpAny_throw (tk _ _ ⟨a, B, sI, pins, σ, H, cls, d, rfl, G.inv, G.low, G.up.trans up4, .inr (.inr (hs ▸ held)), G.na, G.os, G.ag, w⟩)
  unfold PySem.passOn
  refine wpAny_bind (wpAny_field he hd h1 ?_)
  rw [if_neg (by simp)]
  first
    | exact wpAny_bind (wpAny_pure (wpAny_bind off))
    | exact wpAny_bind off
theorem Got.run (G : Got X pins σ H s a cls d B sI h3) (hs : X.stack = X.env :: X.outer) (hf : X.env.frame = some X.env.locals) (hN : X.N.Nodup) (tk : Takes X Wout) {hds : List ExceptHandler} {l : List Cls1} (hk : Cla X hds l) (w : wList X.K Wout D l cls d σ H) :
    wpAny (model X.prog X.w) X.A (handleBy (.ref a) X.env hds) (SP X pins D) X.xe { s with heap := h3 } := by
  induction hk with
  | nil => exact G.none_left hs hf tk w
  | cons0 hc hsu r ih =>
    obtain ⟨b, hb, yes, no⟩ := w
    refine wpAny_handleBy_cons (codeAny_handlers_test ?_) (fun q => nomatch q)
    refine G.asks' hf hc ((G.look hf hb).here ?_)
    cases b with
    | false => exact ih (no rfl)
    | true =>
      refine codeAny_handlers_suite (HandSPX.lands_againZ G.fl fun h4 fl4 up4 => ?_)
      obtain ⟨oe, hz, hd, -, J, S⟩ := G.enter hf fl4 up4
      refine wpAny_mono ((hsu a oe cls d (X.pn ++ pins) hz hd).run [] _ _ H D S (yes rfl a G.na)) (fun f s6 e6 => ?_) (fun _ _ z => z.elim)
      cases f with
      | ret u => obtain ⟨v, σ6, H6, I6, r6, q6⟩ := e6; exact ⟨v, σ6, H6, I6.unsuite G.inv.ok, r6, q6⟩
      | _ => obtain ⟨σ6, H6, I6, q6⟩ := e6; exact ⟨σ6, H6, I6.unsuite G.inv.ok, q6⟩
  | @cons1 x n i c ts b₀ suite np pos' hds2 l2 hc hi hl hsu r ih =>
    obtain ⟨b, hb, yes, no⟩ := w
    refine wpAny_handleBy_cons (codeAny_handlers_test ?_) (fun q => nomatch q)
    refine G.asks' hf hc ((G.look hf hb).here ?_)
    cases b with
    | false => exact ih (no rfl)
    | true =>
      refine codeAny_handlers_suite_as (HandSPX.lands_againZ G.fl fun h4 fl4 up4 => ?_)
      obtain ⟨oe, hz, hd, -, J, S⟩ := G.enter hf fl4 up4
      refine store_ok (X := X.suite a ((a, oe) :: (X.pn ++ pins))) (v := .ref a) S hN hi (.inl hl) rfl (fun s5 S5 => ?_) (.inr hl)
      refine wpAny_mono ((hsu a oe cls d (X.pn ++ pins) hz hd).run [] _ _ H _ S5 (yes rfl a G.na)) (fun f s6 e6 => ?_) (fun _ _ z => z.elim)
      have gone : ∀ {σ6 : St} {H6 : Hp} {Q : Shared → Prop}, Inv (X.suite a ((a, oe) :: (X.pn ++ pins))) [] σ6 H6 s6 → (∀ s7, Inv X pins (σ6.set i none) H6 s7 → Q s7) →
          wpAny (model X.prog X.w) X.A (do bindName X.env n .none; unbindBehindTheSuite X.env n pos') (fun _ s7 => Q s7) X.xe s6 := fun I6 k => gone_ok (I6.unsuite G.inv.ok) hN hi hl k
      cases f with
      | ret u => obtain ⟨v, σ6, H6, I6, r6, q6⟩ := e6; exact gone I6 fun s7 J7 => ⟨v, _, _, J7, r6, q6⟩
      | next => obtain ⟨σ6, H6, I6, q6⟩ := e6; exact gone I6 fun s7 J7 => ⟨_, _, J7, q6⟩
      | brk => obtain ⟨σ6, H6, I6, q6⟩ := e6; exact gone I6 fun s7 J7 => ⟨_, _, J7, q6⟩
      | cont => obtain ⟨σ6, H6, I6, q6⟩ := e6; exact gone I6 fun s7 J7 => ⟨_, _, J7, q6⟩
end
theorem ps_tryC {X : Cx} {body : List Stmt} {h₀ : ExceptHandler} {hds : List ExceptHandler} {l : List Cls1} {pos : Pos} {tb : WX → TS} {Wout : WX} (hs : X.stack = X.env :: X.outer) (hf : X.env.frame = some X.env.locals) (hN : X.N.Nodup) (tk : Takes X Wout)
    (hb : ∀ (W : WX) (pn : List (Addr × Obj)) (xe : Value → Shared → Prop), Takes (X.tr pn xe) W → PassesOwn (model X.prog X.w) X.A X.env xe → PSs (X.tr pn xe) body (tb W))
    (hh : Cla X (h₀ :: hds) l) : PS X (.Try body (h₀ :: hds) [] [] pos) (fun D σ H => tb (wList X.K Wout D l) D σ H) := by
  refine ⟨fun pins s σ H D I h => wpAny_Try_except ?_⟩
  have ok := I.ok
  have hfr : X.A.frames = some (X.env :: X.outer) := ok.frames.trans (congrArg some hs)
  have run := (hb (wList X.K Wout D l) (X.pn ++ pins) (fun e s₁ => wpAny (model X.prog X.w) X.A (noteFrame e X.env) (fun _ s₂ => wpAny (model X.prog X.w) X.A (setFlight e none) (fun _ s₃ =>
    wpAny (model X.prog X.w) X.A (handleBy e X.env (h₀ :: hds)) (SP X pins D) X.xe s₃) X.xe s₂) X.xe s₁) (fun u s' xx => ?_) PassesOwn.looking).run [] s σ H D (I.toTry _) h
  · refine wpAny_mono run (fun f s1 e1 => ?_) (fun e s1 z => z)
    cases f with
    | ret u => obtain ⟨v, σ1, H1, I1, r1, q1⟩ := e1; exact ⟨v, σ1, H1, I1.ofTry ok, r1, q1⟩
    | next => obtain ⟨σ1, H1, I1, q1⟩ := e1; exact wpAny_execs_nil ⟨σ1, H1, I1.ofTry ok, q1⟩
    | brk => obtain ⟨σ1, H1, I1, q1⟩ := e1; exact ⟨σ1, H1, I1.ofTry ok, q1⟩
    | cont => obtain ⟨σ1, H1, I1, q1⟩ := e1; exact ⟨σ1, H1, I1.ofTry ok, q1⟩
  · obtain ⟨a, B, sI, pins2, σ1, H1, cls, d, rfl, I1, low, up, sky, na, os, ag, w⟩ := xx
    have sky2 : Sky B (X.env :: X.outer) a (Zc cls d) X.env.locals s'.heap := hs ▸ sky
    exact Sky.land Zc.steady hfr hf sky2 fun h3 fl3 up3 => Got.run ⟨I1.ofTry ok, low, up.trans up3, os, ag, fl3, na⟩ hs hf hN tk hh w
end Mi
/-! The mirror layer, part Z: named clauses: what a suite asks of its error; errors with fields. -/
namespace Mi
open PySem L2
/-- the error in hand: slot i holds it, its fields are fs -/
def Hand (K : PySem.W.Frag) (β : Bt) (H : Hp) (σ : St) (i : Nat) (a : Addr) (fs : Fl) (d : Option Addr) : Prop :=
  σ[i]? = some (some (.ref a)) ∧ ((fs = [] ∧ d = none) ∨ ∃ dd gs, d = some dd ∧ dd ∈ β.pr ∧ H dd = some (.xd gs) ∧ RF K β H fs gs)
theorem Hand.ext {K : PySem.W.Frag} {β β' : Bt} {H H' : Hp} {σ : St} {i : Nat} {a : Addr} {fs : Fl} {d : Option Addr} (h : Hand K β H σ i a fs d) (e : Ext K β H β' H') : Hand K β' H' σ i a fs d := by
  refine ⟨h.1, h.2.imp (fun x => x) ?_⟩
  rintro ⟨dd, gs, h1, h2, h3, h4⟩
  obtain ⟨q1, q2⟩ := e.prot dd h2 _ h3
  exact ⟨dd, gs, h1, q1, q2, h4.ext e⟩
structure QE (X : Cx) (Cl : Nat → Addr) (i : Nat) (a : Addr) (fs : Fl) (d : Option Addr) (e : Expr) (m : ME) : Prop where
  ex : ∃ t, PE X e t ∧ ∀ β H σ s st Q, HR X.K Cl β H st → SR X.K β H s σ → Hand X.K β H σ i a fs d → Po X.K Cl E0 β H Q (m s st) → t σ H Q
structure QA (X : Cx) (Cl : Nat → Addr) (i : Nat) (a : Addr) (fs : Fl) (d : Option Addr) (es : List Expr) (m : MA) : Prop where
  ex : ∃ t, PA X es t ∧ ∀ β H σ s st Q, HR X.K Cl β H st → SR X.K β H s σ → Hand X.K β H σ i a fs d → PoL X.K Cl E0 β H Q (m s st) → t σ H Q
structure QT (X : Cx) (Cl : Nat → Addr) (i : Nat) (a : Addr) (fs : Fl) (d : Option Addr) (e : Expr) (m : MT) : Prop where
  ex : ∃ t, PT X e t ∧ ∀ β H σ s st Q, HR X.K Cl β H st → SR X.K β H s σ → Hand X.K β H σ i a fs d → PoB X.K Cl E0 β H Q (m s st) → t σ H Q
structure QW (X : Cx) (Cl : Nat → Addr) (i : Nat) (a : Addr) (fs : Fl) (d : Option Addr) (e : Expr) (m : MT) : Prop where
  ex : ∃ t, PW X e t ∧ ∀ β H σ s st Q, HR X.K Cl β H st → SR X.K β H s σ → Hand X.K β H σ i a fs d → PoB X.K Cl E0 β H Q (m s st) → t σ H Q
structure QS (X : Cx) (Cl : Nat → Addr) (i : Nat) (a : Addr) (fs : Fl) (d : Option Addr) (es : List Stmt) (m : MS) : Prop where
  ex : ∃ t, PSs X es t ∧ ∀ β H σ s st D, HR X.K Cl β H st → SR X.K β H s σ → Hand X.K β H σ i a fs d → PoS X.K Cl E0 D β H (m s st) → t D σ H
section
variable {X : Cx} {Cl : Nat → Addr} {i : Nat} {a : Addr} {fs : Fl} {d : Option Addr} {pos : Pos}
theorem qe_of {e : Expr} {m : ME} (h : JE X Cl E0 e m) : QE X Cl i a fs d e m := by
  obtain ⟨t, p, q⟩ := h.ex
  exact ⟨t, p, fun β H σ s st Q hr hs _ h => q β H σ s st Q hr hs h⟩
theorem qe_cmp {x y : Expr} {mx my : ME} {op : CmpOp} {r : R2} {m : M2} (ho : OpR X (compareOp op) r ∧ SOp X.K Cl E0 r m) (hx : QE X Cl i a fs d x mx) (hy : QE X Cl i a fs d y my) (hm : behindInMarks op y = false) : QE X Cl i a fs d (.Compare x [op] [y] pos) (mOp m mx my) := by
  obtain ⟨_, p1, q1⟩ := hx.ex
  obtain ⟨_, p2, q2⟩ := hy.ex
  refine ⟨_, pe_cmpR ho.1 p1 p2 hm, fun β H σ s st Q hr hs hh h => q1 β H σ s st _ hr hs hh (h.bind fun x st1 β1 H1 v _ e1 hr1 rx h1 => q2 β1 H1 σ s st1 _ hr1 (hs.ext e1) (hh.ext e1) (h1.bind fun y st2 β2 H2 u _ e2 hr2 ry h2 => ?_))⟩
  exact ho.2 β2 H2 st2 x y v u Q hr2 (rx.ext e2) ry h2
theorem qe_one {op : BoolOp} {x : Expr} {mx : ME} (h : QE X Cl i a fs d x mx) : QE X Cl i a fs d (.BoolOp op [x] pos) mx := by
  obtain ⟨t, p, q⟩ := h.ex
  exact ⟨t, pe_one p, q⟩
theorem qe_and {x y : Expr} {rest : List Expr} {mx my : ME} (hx : QE X Cl i a fs d x mx) (hy : QE X Cl i a fs d (.BoolOp .And (y :: rest) pos) my) : QE X Cl i a fs d (.BoolOp .And (x :: y :: rest) pos) (mAndV mx my) := by
  obtain ⟨_, p1, q1⟩ := hx.ex
  obtain ⟨_, p2, q2⟩ := hy.ex
  refine ⟨_, pe_andT p1 p2, fun β H σ s st Q hr hs hh h => q1 β H σ s st _ hr hs hh (h.bind fun x st1 β1 H1 v _ e1 hr1 rx h1 => ?_)⟩
  split at h1
  · rename_i e
    exact ⟨true, truth_ok hr1 rx e, by rw [if_pos rfl]; exact q2 β1 H1 σ s st1 Q hr1 (hs.ext e1) (hh.ext e1) h1⟩
  · rename_i e
    exact ⟨false, truth_ok hr1 rx e, by rw [if_neg Bool.false_ne_true]; exact PoG.val h1 hr1 rx⟩
  · exact h1.elim
theorem qa_nil : QA X Cl i a fs d [] mNil := ⟨_, pa_nil, fun β H σ s st Q hr hs _ h => PoG.val h hr .nil⟩
theorem qa_cons {e : Expr} {es : List Expr} {ma : ME} {mr : MA} (ha : QE X Cl i a fs d e ma) (hr : QA X Cl i a fs d es mr) (hs : starEach (e :: es) X.env = (false, eval e X.env) :: starEach es X.env := by rfl) : QA X Cl i a fs d (e :: es) (mCons ma mr) := by
  obtain ⟨_, p1, q1⟩ := ha.ex
  obtain ⟨_, p2, q2⟩ := hr.ex
  refine ⟨_, pa_cons p1 p2 hs, fun β H σ s st Q hr hs hh h => q1 β H σ s st _ hr hs hh (h.bind fun x st1 β1 H1 v _ e1 hr1 rx h1 => q2 β1 H1 σ s st1 _ hr1 (hs.ext e1) (hh.ext e1) (h1.bind fun y st2 β2 H2 u _ e2 hr2 ry h2 => ?_))⟩
  exact PoG.val h2 hr2 (.cons (rx.ext e2) ry)
theorem qe_tup {k : Nat} {es : List Expr} {mr : MA} (h : QA X Cl i a fs d es mr) : QE X Cl i a fs d (.Tuple es k pos) (mTup mr) := by
  obtain ⟨_, p, q⟩ := h.ex
  refine ⟨_, pe_tup p, fun β H σ s st Q hr hs hh h => q β H σ s st _ hr hs hh (h.bind fun x st1 β1 H1 v _ e1 hr1 rx h1 => ?_)⟩
  split at h1
  · rename_i hz
    exact ⟨by rw [← rx.length]; exact hz, fun l hl => Po.tup h1 hr1 hl rx⟩
  · exact h1.elim
theorem qt_tru {e : Expr} {m : ME} (h : QE X Cl i a fs d e m) (he : ∀ whole, isTrue e X.env whole = (do let v ← whole; standAt e.pos; holding [v] (truthy v)) := by intro _; rfl) : QT X Cl i a fs d e (mTru m) := by
  obtain ⟨t, p1, q1⟩ := h.ex
  refine ⟨_, pt_truth p1 he, fun β H σ s st Q hr hs hh hp => q1 β H σ s st _ hr hs hh (hp.bind fun x st1 β1 H1 v _ e1 hr1 rx h1 => ?_)⟩
  split at h1
  · rename_i k e
    exact ⟨k, truth_ok hr1 rx e, PoG.val h1 hr1 rfl⟩
  · exact h1.elim
theorem qt_w {e : Expr} {m : MT} (h : QW X Cl i a fs d e m) : QT X Cl i a fs d e m := by
  obtain ⟨t, p, q⟩ := h.ex
  exact ⟨t, p.pt, q⟩
theorem qw_and1 {e : Expr} {m : MT} (h : QT X Cl i a fs d e m) : QW X Cl i a fs d (.BoolOp .And [e] pos) m := by
  obtain ⟨t, p, q⟩ := h.ex
  exact ⟨t, pw_and1 p, q⟩
theorem qw_and {x y : Expr} {rest : List Expr} {mx my : MT} (ha : QT X Cl i a fs d x mx) (hb : QW X Cl i a fs d (.BoolOp .And (y :: rest) pos) my) : QW X Cl i a fs d (.BoolOp .And (x :: y :: rest) pos) (mTAnd mx my) := by
  obtain ⟨_, p1, q1⟩ := ha.ex
  obtain ⟨_, p2, q2⟩ := hb.ex
  refine ⟨_, pw_and p1 p2, fun β H σ s st Q hr hs hh h => q1 β H σ s st _ hr hs hh (h.bind fun x st1 β1 H1 v _ e1 hr1 rx h1 => ?_)⟩
  cases rx
  cases x with
  | true => rw [if_pos rfl] at h1 ⊢; exact q2 β1 H1 σ s st1 Q hr1 (hs.ext e1) (hh.ext e1) h1
  | false => rw [if_neg Bool.false_ne_true] at h1 ⊢; exact PoG.val h1 hr1 rfl
theorem qs_of {es : List Stmt} {m : MS} (h : JSs X Cl E0 es m) : QS X Cl i a fs d es m := by
  obtain ⟨t, p, q⟩ := h.ex
  exact ⟨t, p, fun β H σ s st D hr hs _ h => q β H σ s st D hr hs h⟩
theorem qs_ret {e : Expr} {m : ME} (h : QE X Cl i a fs d e m) : QS X Cl i a fs d [.Return (some e) pos] (mRet m) := by
  obtain ⟨_, p, q⟩ := h.ex
  refine ⟨_, pss_one (ps_ret p), fun β H σ s st D hr hs hh h => q β H σ s st _ hr hs hh ?_⟩
  exact h.run fun w st1 β1 H1 v _ e1 hr1 rv h1 => h1 β1 H1 v (Ext.refl _ _ _) hr1 rv
/-- if test: suite, and what follows -/
theorem qs_if {c : Expr} {as rest : List Stmt} {mc : MT} {m1 m2 : MS} (hc : QT X Cl i a fs d c mc) (h1 : JSs X Cl E0 as m1) (h2 : JSs X Cl E0 rest m2) : QS X Cl i a fs d (.If c as [] pos :: rest) (mSeq (mIfS mc m1 mSkip) m2) := by
  obtain ⟨_, p, q⟩ := hc.ex
  obtain ⟨_, p1, q1⟩ := h1.ex
  obtain ⟨w2, p2, q2⟩ := h2.ex
  obtain ⟨_, p0, q0⟩ := (jss_nil (X := X) (Cl := Cl) (E := E0)).ex
  refine ⟨_, pss_cons (ps_if p p1 p0) p2, fun β H σ s st D hr hs hh h => ?_⟩
  refine q β H σ s st _ hr hs hh ?_
  simp only [mSeq, mIfS] at h
  cases e : mc s st with
  | stuck => rw [e] at h; exact h.elim
  | exc c fs2 st1 => rw [e] at h; exact h
  | ok k st1 =>
    rw [e] at h
    intro β1 H1 b e1 hr1 eb
    subst eb
    have h' := PoS.ext e1 h
    have thn : ∀ (o : SO) (t1 : TS), (∀ D', PoS X.K Cl E0 D' β1 H1 o → t1 D' σ H1) → PoS X.K Cl E0 D β1 H1 (o.then m2) → t1 { D with nx := w2 D } σ H1 := fun o t1 k1 k2 => k1 _ (by
      cases o with
      | nx s2 st2 => exact fun β2 H2 σ2 e2 hr2 hs2 => q2 β2 H2 σ2 s2 st2 D hr2 hs2 (PoS.ext e2 k2)
      | rt w2 st2 => exact k2
      | bk s2 st2 => exact k2
      | ct s2 st2 => exact k2
      | exc c fs2 st2 => exact k2
      | stuck => exact k2)
    cases k with
    | true =>
      rw [if_pos rfl]
      exact thn (m1 s st1) _ (fun D' z => q1 β1 H1 σ s st1 D' hr1 (hs.ext e1) z) h'
    | false =>
      rw [if_neg Bool.false_ne_true]
      exact thn (mSkip s st1) _ (fun D' z => q0 β1 H1 σ s st1 D' hr1 (hs.ext e1) z) h'
end
/-! ### isinstance(e, C), e.f -/
theorem kit_ref {K : PySem.W.Frag} {D C : Addr} (hd : PySem.W.hasDictIn K C = true) (ht : PySem.W.typeIn K (.ref C) = some (.type "type")) (hs : PySem.W.subIn K (.ref D) (.ref C) = some true) : PySem.W.kitOne K (.ref D) (.ref C) = some true := by
  unfold PySem.W.kitOne
  split
  · rfl
  · obtain ⟨cd, hc, -⟩ := PySem.W.any_some hd
    have h2 : (PySem.W.clsIn K C).isSome = true := by rw [hc]; rfl
    have h3 : ((PySem.W.clsIn K C).isSome && PySem.W.typeIn K (.ref C) == some (.type "type")) = true := by rw [h2, ht]; rfl
    show (if ((PySem.W.clsIn K C).isSome && PySem.W.typeIn K (.ref C) == some (.type "type")) = true then PySem.W.subIn K (.ref D) (.ref C) else none) = some true
    rw [if_pos h3]
    exact hs
theorem kit_typ {K : PySem.W.Frag} {D : Addr} {T : String} (hm : PySem.W.kitMeta T = true) (hs : PySem.W.subIn K (.ref D) (.type T) = some true) : PySem.W.kitOne K (.ref D) (.type T) = some true := by
  unfold PySem.W.kitOne
  split
  · rfl
  · unfold PySem.W.kitCls
    simp only [hm, if_true]
    exact hs
theorem call_isX {X : Cx} {a D : Addr} {oe : Obj} {d : Option Addr} {pn : List (Addr × Obj)} (T : ExcC X.K D) (hz : Zc (.ref D) d oe) (hf : ∃ vs, oe.data = .fields vs) :
    CallR (X.suite a ((a, oe) :: pn)) (.builtin "isinstance") (fun xs H Q => ∃ (c : V) (cv : Value) (b : Bool), xs = [.ref a, c] ∧ (∀ u, RelV c u → u = cv) ∧ PySem.W.kitOne X.K (.ref D) cv = some b ∧ (d = none ∨ ∃ dd gs, d = some dd ∧ H dd = some (.xd gs)) ∧ Q (.bl b) H) := by
  intro pins s σ H xs us Q I r h
  obtain ⟨c, cv, b, rfl, hcv, e, hd, q⟩ := h
  cases r with
  | cons rx rr =>
    cases rr with
    | cons rt rr =>
      cases rr
      cases rx
      cases hcv _ rt
      obtain ⟨hget, -⟩ := I.pin (a, oe) (List.mem_append_left _ List.mem_cons_self)
      obtain ⟨vs, hv⟩ := hf
      have nc : PySem.W.notCls oe := by unfold PySem.W.notCls; rw [hv] <;> trivial
      obtain ⟨od, J⟩ : ∃ od, PySem.W.InstAt s.heap a oe D od := by
        rcases hd with hd | ⟨dd, gs, hd, hx⟩
        · exact ⟨none, hget, hz.1, nc, by rw [hz.2, hd]; trivial⟩
        · have hx2 : ObjOk X.prog X.w H s.heap dd (.xd gs) := I.hok dd _ hx
          obtain ⟨mA, hns, -⟩ := hx2
          obtain ⟨od, ho, -⟩ := lookIn_ns hns
          exact ⟨some od, hget, hz.1, nc, by rw [hz.2, hd]; exact ho⟩
      obtain ⟨cd, hcd, -⟩ := PySem.W.any_some T.hd
      exact PySem.W.kia_one (PySem.W.kitx_exc (by rw [hcd]; rfl) T.hg T.hk T.hs T.ha T.hn T.ht T.hm) I.kIn J e (fun z => nomatch z) fun tk => ⟨.bl b, H, I.kept (t' := tk) fun _ _ z => z, rfl, q⟩
section
variable {X : Cx} {Cl : Nat → Addr} {i : Nat} {a D : Addr} {oe : Obj} {fs : Fl} {d : Option Addr} {pn : List (Addr × Obj)} {pos p1 p2 p3 : Pos} {x y : Str}
theorem hand_some {K : PySem.W.Frag} {β : Bt} {H : Hp} {σ : St} (h : Hand K β H σ i a fs d) : d = none ∨ ∃ dd gs, d = some dd ∧ H dd = some (.xd gs) := h.2.imp (fun z => z.2) fun ⟨dd, gs, h1, _, h3, _⟩ => ⟨dd, gs, h1, h3⟩
theorem qe_is {c : V} {cv : Value} {b : Bool} {e2 : Expr} (T : ExcC X.K D) (hz : Zc (.ref D) d oe) (hf : ∃ vs, oe.data = .fields vs) (hm : X.mg "isinstance" = none) (hv : PE (X.suite a ((a, oe) :: pn)) e2 (tC c)) (hcv : ∀ u, RelV c u → u = cv) (hk : PySem.W.kitOne X.K (.ref D) cv = some b)
    (hN : X.N[i]? = some x := by rfl) (hvis : Vis X.env.scope x := by first | exact Or.inl rfl | exact Or.inr (Or.inl rfl) | exact Or.inr (Or.inr rfl)) (hd : (x == ("__debug__" : Str)) = false := by decide) (hcd : (x == ("__classdict__" : Str)) = false := by decide) (hg : Gl X "isinstance" := by rfl)
    (he : starEach [.Name x p1, e2] (X.suite a ((a, oe) :: pn)).env = (false, eval (.Name x p1) (X.suite a ((a, oe) :: pn)).env) :: starEach [e2] (X.suite a ((a, oe) :: pn)).env := by rfl) (he2 : starEach [e2] (X.suite a ((a, oe) :: pn)).env = (false, eval e2 (X.suite a ((a, oe) :: pn)).env) :: starEach [] (X.suite a ((a, oe) :: pn)).env := by rfl)
    (hpl : (backTo pos (starEach [e2] (X.suite a ((a, oe) :: pn)).env)).any (·.1) = false := by rfl) :
    QE (X.suite a ((a, oe) :: pn)) Cl i a fs d (.Call (.Name "isinstance" p3) [.Name x p1, e2] [] pos) (mC (.bl b)) := by
  refine ⟨_, pe_callB (call_isX T hz hf) hg hm PyProof.Rows.boot_isinstance (pa_cons (hs := he) (pe_var (i := i) hN hvis hd hcd) (pa_cons (hs := he2) hv pa_nil)) (he := he) (hpl := hpl), fun β H σ s st Q hr hs hh h => ?_⟩
  exact ⟨.ref a, hh.1, c, cv, b, rfl, hcv, hk, hand_some hh, PoG.val h hr (.bl b)⟩
/-- what the top says of a class of errors whose fields are read -/
structure XFld (K : PySem.W.Frag) (D : Addr) (f : Str) : Prop where
  ga : PySem.W.findIn K (.ref D) "__getattribute__" = some (some (.builtin "BaseException.__getattribute__"))
  gg : PySem.W.findIn K (.ref D) "__getattr__" = some none
  ex : PySem.W.subIn K (.ref D) (.type "BaseException") = some true
  hd : PySem.W.hasDictIn K D = true
  no : PySem.W.findIn K (.ref D) f = some none
@[simp] def mXF (fs : Fl) (f : Str) : ME := fun _ st => match fs.lookup f with
  | some w => .ok w st
  | none => .stuck
theorem qe_fld {f : Str} (T : XFld X.K D f) (hz : Zc (.ref D) d oe) (hf : ∃ vs, oe.data = .fields vs)
    (hN : X.N[i]? = some x := by rfl) (hvis : Vis X.env.scope x := by first | exact Or.inl rfl | exact Or.inr (Or.inl rfl) | exact Or.inr (Or.inr rfl)) (hd : (x == ("__debug__" : Str)) = false := by decide) (hcd : (x == ("__classdict__" : Str)) = false := by decide)
    (hb : attributeBase (.Name x p1) f (X.suite a ((a, oe) :: pn)).env (eval (.Name x p1) (X.suite a ((a, oe) :: pn)).env) = eval (.Name x p1) (X.suite a ((a, oe) :: pn)).env := by rfl) :
    QE (X.suite a ((a, oe) :: pn)) Cl i a fs d (.Attribute (.Name x p1) f pos) (mXF fs f) := by
  refine ⟨fun σ H Q => σ[i]? = some (some (.ref a)) ∧ ∃ dd gs v, d = some dd ∧ H dd = some (.xd gs) ∧ gs.lookup f = some v ∧ Q v H, ⟨fun pins s σ H Q I h => ?_⟩, fun β H σ s st Q hr hs hh h => ?_⟩
  · obtain ⟨hσ, dd, gs, v, ed, ea, hl, q⟩ := h
    refine attr_of hb (thn ((pe_var (X := X.suite a ((a, oe) :: pn)) (i := i) (pos := p1) hN hvis hd hcd).run pins s σ H (fun u H1 => u = .ref a ∧ H1 = H) I ⟨.ref a, hσ, rfl, rfl⟩) fun u s1 hh => ?_)
    obtain ⟨w, H1, I1, rw1, ew, eH⟩ := hh
    subst ew
    subst eH
    cases (show u = Value.ref a from rw1)
    obtain ⟨ha, -⟩ := I1.pin (a, oe) (List.mem_append_left _ List.mem_cons_self)
    obtain ⟨vs, hdat⟩ := hf
    have ok : ObjOk X.prog X.w H1 s1.heap dd (.xd gs) := I1.hok dd _ ea
    obtain ⟨mA, hns, hrel⟩ := ok
    obtain ⟨od, ho, hlk⟩ := lookIn_ns hns
    obtain ⟨u2, hu, ru⟩ := RelO.some_of (v := v) (o := mA f) (by rw [← hl]; exact hrel f)
    have J : PySem.W.InstAt s1.heap a oe D (some od) := ⟨ha, hz.1, by unfold PySem.W.notCls; rw [hdat] <;> trivial, by rw [hz.2, ed]; exact ho⟩
    exact HandSPX.exc_get I1.kIn J T.ga T.gg T.ex (PySem.W.findObj_own T.hd T.no rfl (by rw [hlk, hu])) (handed_of ru) ⟨v, H1, I1.tok _, ru, q⟩
  · simp only [mXF] at h
    split at h
    · rename_i w ew
      rcases hh.2 with ⟨e1, -⟩ | ⟨dd, gs, e1, -, e3, e4⟩
      · rw [e1] at ew; cases ew
      · obtain ⟨v, hv, rv⟩ := e4.look ew
        exact ⟨hh.1, dd, gs, v, e1, e3, hv, PoG.val h hr rv⟩
    · exact h.elim
end
end Mi
/-! The mirror layer, part V: try: one call, and clauses; raise C(e, ..) where C keeps its arguments as fields. -/
namespace Mi
open PySem L2
abbrev MCl := (Nat → Option Bool) × Option Nat × (Nat → Fl → MS)
def dropO (o : SO) : Option Nat → SO
  | none => o
  | some i => match o with
    | .nx s st => .nx (s.set i none) st
    | .bk s st => .bk (s.set i none) st
    | .ct s st => .ct (s.set i none) st
    | o => o
def dropI (s : Slo) : Option Nat → Slo
  | none => s
  | some i => s.set i none
def inI (s : Slo) : Option Nat → Bool
  | none => true
  | some i => decide (i < s.length)
def mCla : List MCl → Nat → Fl → MS
  | [], c, fs => fun _ st => .exc c fs st
  | (sub, nm, ms) :: r, c, fs => fun s st => match sub c with
    | some true => if inI s nm = true then calmS (dropO (ms c fs (dropI s nm) st) nm) else .stuck
    | some false => mCla r c fs s st
    | none => .stuck
@[simp] def mTryC (body : MS) (cl : List MCl) : MS := fun s st => match body s st with
  | .exc c fs st1 => mCla cl c fs s st1
  | o => o
inductive JCla (X : Cx) (Cl : Nat → Addr) : List ExceptHandler → List MCl → Prop
  | nil : JCla X Cl [] []
  | cons0 {x : Str} {hc : Nat} {sub : Nat → Option Bool} {b₀ : Stmt} {suite : List Stmt} {np pos' : Pos} {hds : List ExceptHandler} {l : List MCl} {ms : MS} (hm : X.mg x = some (.ref (Cl hc)))
      (hsub : ∀ c b, sub c = some b → PySem.W.exmOne X.K (.ref (Cl c)) (.ref (Cl hc)) = some b)
      (hsu : ∀ (a : Addr) (oe : Obj) (pn : List (Addr × Obj)), JSs (X.suite a ((a, oe) :: pn)) Cl E0 (b₀ :: suite) ms) (r : JCla X Cl hds l) (hg : Gl X x := by rfl) (hdb : (x == ("__debug__" : Str)) = false := by decide) :
      JCla X Cl (.ExceptHandler (some (.Name x np)) none (b₀ :: suite) pos' :: hds) ((sub, none, fun _ _ => ms) :: l)
  | cons1 {x n : Str} {hc : Nat} (i : Nat) {sub : Nat → Option Bool} {b₀ : Stmt} {suite : List Stmt} {np pos' : Pos} {hds : List ExceptHandler} {l : List MCl} {ms : Nat → Fl → MS} (hm : X.mg x = some (.ref (Cl hc)))
      (hsub : ∀ c b, sub c = some b → PySem.W.exmOne X.K (.ref (Cl c)) (.ref (Cl hc)) = some b)
      (hsu : ∀ (c : Nat), sub c = some true → ∀ (fs : Fl) (a : Addr) (oe : Obj) (d : Option Addr) (pn : List (Addr × Obj)), Zc (.ref (Cl c)) d oe → (∃ vs, oe.data = .fields vs) → QS (X.suite a ((a, oe) :: pn)) Cl i a fs d (b₀ :: suite) (ms c fs)) (r : JCla X Cl hds l)
      (hi : X.N[i]? = some n := by rfl) (hl : X.env.kindOf n = some .local := by rfl) (hg : Gl X x := by rfl) (hdb : (x == ("__debug__" : Str)) = false := by decide) :
      JCla X Cl (.ExceptHandler (some (.Name x np)) (some n) (b₀ :: suite) pos' :: hds) ((sub, some i, ms) :: l)
/-! ### an error's own dict, guarded -/
theorem ext_guardX {K : PySem.W.Frag} {β : Bt} {H : Hp} {dd : Addr} {gs : List (Str × V)} (hx : H dd = some (.xd gs)) : Ext K β H (β.guard dd) H where
  tup := fun _ _ h => h
  lst := fun q vs hq n => ⟨hq, n.1, fun z => by
    rcases List.mem_cons.mp z with z | z
    · subst z; rw [hx] at hq; cases hq
    · exact n.2 z⟩
  frz := fun _ _ _ h => h
  live := fun _ _ h => .inl h
  prot := fun q hq o ho => ⟨List.mem_cons_of_mem _ hq, ho⟩
theorem hr_guardX {K : PySem.W.Frag} {Cl : Nat → Addr} {β : Bt} {H : Hp} {st : Sto} {dd : Addr} {gs : List (Str × V)} (h : HR K Cl β H st) (hx : H dd = some (.xd gs)) : HR K Cl (β.guard dd) H st where
  len := h.len
  inj := h.inj
  ob := fun i a ob hi ho => (h.ob i a ob hi ho).ext (ext_guardX hx) rfl
  dead := h.dead
  prot := fun q hq => by
    rcases List.mem_cons.mp hq with e | hq
    · subst e
      refine ⟨⟨_, hx⟩, fun i hi => ?_⟩
      obtain ⟨ob, ho⟩ : ∃ ob, st[i]? = some ob := ⟨_, List.getElem?_eq_getElem (h.len' hi)⟩
      obtain ⟨u, hu, hm⟩ := (h.ob i q ob hi ho).some
      rw [hx] at hu
      cases hu
      exact hm
    · exact h.prot q hq
theorem sr_unset {K : PySem.W.Frag} {β : Bt} {H : Hp} {s : Slo} {σ : L2.St} (h : SR K β H s σ) (i : Nat) (x : Option V) : SR K β H (s.set i none) (σ.set i x) := by
  refine ⟨by rw [List.length_set, List.length_set, h.1], fun k w hk => ?_⟩
  by_cases e : i = k
  · subst e
    by_cases hl : i < s.length
    · rw [List.getElem?_set_self hl] at hk; cases hk
    · rw [List.getElem?_eq_none (by rw [List.length_set]; omega)] at hk; cases hk
  · rw [List.getElem?_set_ne e] at hk ⊢
    exact h.2 k w hk
section
variable {X : Cx} {Cl : Nat → Addr} {E : XK}
theorem JCla.ex {hds : List ExceptHandler} {cl : List MCl} (h : JCla X Cl hds cl) : ∃ l : List Cls1, Cla X hds l ∧ ∀ (c : Nat) (fs : Fl) (d : Option Addr) (β : Bt) (H : Hp) (σ : L2.St) (s : Slo) (st : Sto) (D : Ends), HR X.K Cl β H st → SR X.K β H s σ → RX X.K β H fs d →
    PoS X.K Cl E D β H (mCla cl c fs s st) → wList X.K (fun cls d _ H => E cls d H) D l (.ref (Cl c)) d σ H := by
  induction h with
  | nil => exact ⟨[], .nil, fun c fs d β H σ s st D hr hs rx h => h β H d (Ext.refl _ _ _) hr rx⟩
  | @cons0 x hc sub b₀ suite np pos' hds l ms hm hsub hsu r hg hdb ih =>
    obtain ⟨l2, k2, q2⟩ := ih
    refine ⟨(.ref (Cl hc), none, fun _ _ _ D σ H => ∃ β s st, HR X.K Cl β H st ∧ SR X.K β H s σ ∧ PoS X.K Cl E0 D β H (ms s st)) :: l2, .cons0 ⟨hg, hdb, .inl hm⟩ (fun a oe cls d pn _ _ => ?_) k2, fun c fs d β H σ s st D hr hs rx h => ?_⟩
    · obtain ⟨t, p, q⟩ := (hsu a oe pn).ex
      exact pss_imp p fun D σ H ⟨β, s, st, hr, hs, h⟩ => q β H σ s st D hr hs h
    · simp only [mCla] at h
      cases es : sub c with
      | none => rw [es] at h; exact h.elim
      | some b =>
        rw [es] at h
        refine ⟨b, hsub c b es, fun hb a ha => ?_, fun hb => ?_⟩
        · subst hb
          refine ⟨β, s, st, hr, hs, ?_⟩
          simp only [inI, if_true, dropI, dropO] at h
          cases eo : ms s st with
          | exc c2 fs2 st2 => rw [eo] at h; exact h.elim
          | nx s2 st2 => rw [eo] at h; exact h
          | rt w st2 => rw [eo] at h; exact h
          | bk s2 st2 => rw [eo] at h; exact h
          | ct s2 st2 => rw [eo] at h; exact h
          | stuck => rw [eo] at h; exact h
        · subst hb
          exact q2 c fs d β H σ s st D hr hs rx h
  | @cons1 x n hc i sub b₀ suite np pos' hds l ms hm hsub hsu r hi hl hg hdb ih =>
    obtain ⟨l2, k2, q2⟩ := ih
    refine ⟨(.ref (Cl hc), some i, fun a cls d D σ H => ∃ c fs β s st, cls = .ref (Cl c) ∧ sub c = some true ∧ HR X.K Cl β H st ∧ SR X.K β H s σ ∧ Hand X.K β H σ i a fs d ∧ PoS X.K Cl E0 D β H (ms c fs s st)) :: l2, .cons1 ⟨hg, hdb, .inl hm⟩ hi hl (fun a oe cls d pn hz hf => ?_) k2, fun c fs d β H σ s st D hr hs rx h => ?_⟩
    · refine ⟨fun pins s0 σ H D I h => ?_⟩
      obtain ⟨c, fs, β, s, st, rfl, hc2, hr, hs, hh, hp⟩ := h
      obtain ⟨t, p, q⟩ := (hsu c hc2 fs a oe d pn hz hf).ex
      exact p.run pins s0 σ H D I (q β H σ s st D hr hs hh hp)
    · simp only [mCla] at h
      cases es : sub c with
      | none => rw [es] at h; exact h.elim
      | some b =>
        rw [es] at h
        refine ⟨b, hsub c b es, fun hb a ha => ?_, fun hb => ?_⟩
        · subst hb
          simp only [inI, dropI] at h
          by_cases hlen : i < s.length
          · simp only [hlen, decide_true, if_true] at h
            have hσ : (σ.set i (some (V.ref a)))[i]? = some (some (.ref a)) := List.getElem?_set_self (by rw [← hs.1]; exact hlen)
            obtain ⟨β2, e2, hr2, hh⟩ : ∃ β2, Ext X.K β H β2 H ∧ HR X.K Cl β2 H st ∧ Hand X.K β2 H (σ.set i (some (.ref a))) i a fs d := by
              rcases rx with rx | ⟨dd, gs, h1, h2, h3⟩
              · exact ⟨β, Ext.refl _ _ _, hr, hσ, .inl rx⟩
              · exact ⟨β.guard dd, ext_guardX h2, hr_guardX hr h2, hσ, .inr ⟨dd, gs, h1, List.mem_cons_self, h2, h3.ext (ext_guardX h2)⟩⟩
            refine ⟨c, fs, β2, s.set i none, st, rfl, es, hr2, sr_unset (hs.ext e2) i _, hh, ?_⟩
            have h' := PoS.ext e2 h
            simp only [dropO] at h'
            cases eo : ms c fs (s.set i none) st with
            | exc c2 fs2 st2 => rw [eo] at h'; exact h'.elim
            | nx s2 st2 => rw [eo] at h'; exact fun β3 H3 σ3 e3 hr3 hs3 => h' β3 H3 _ e3 hr3 (sr_unset hs3 i none)
            | bk s2 st2 => rw [eo] at h'; exact fun β3 H3 σ3 e3 hr3 hs3 => h' β3 H3 _ e3 hr3 (sr_unset hs3 i none)
            | ct s2 st2 => rw [eo] at h'; exact fun β3 H3 σ3 e3 hr3 hs3 => h' β3 H3 _ e3 hr3 (sr_unset hs3 i none)
            | rt w st2 => rw [eo] at h'; exact h'
            | stuck => rw [eo] at h'; exact h'
          · simp only [hlen, decide_false, Bool.false_eq_true, if_false] at h
            exact h.elim
        · subst hb
          exact q2 c fs d β H σ s st D hr hs rx h
theorem js_tryC {body : List Stmt} {h₀ : ExceptHandler} {hds : List ExceptHandler} {cl : List MCl} {pos : Pos} {mb : MS} (hN : X.N.Nodup) (tk : Takes X (fun cls d _ H => E cls d H))
    (hb : ∀ (W : WX) (pn : List (Addr × Obj)) (xe : Value → Shared → Prop), Takes (X.tr pn xe) W → JB (X.tr pn xe) Cl W body mb)
    (hh : JCla X Cl (h₀ :: hds) cl) (hs : X.stack = X.env :: X.outer := by rfl) (hf : X.env.frame = some X.env.locals := by rfl) :
    JS X Cl E (.Try body (h₀ :: hds) [] [] pos) (mTryC mb cl) := by
  obtain ⟨l, k, q⟩ := hh.ex (E := E)
  refine ⟨_, ps_tryC (tb := fun W => tBody X.K Cl mb W) hs hf hN tk (fun W pn xe t _ => (hb W pn xe t).ps) k, fun β H σ s st D hr hs h => ⟨β, s, st, hr, hs, ?_⟩⟩
  simp only [mTryC] at h
  cases ei : mb s st with
  | exc c fs st1 =>
    rw [ei] at h
    intro β1 H1 d e1 hr1 rx
    exact q c fs d β1 H1 σ s st1 D hr1 (hs.ext e1) rx (PoS.ext e1 h)
  | nx s1 st1 => rw [ei] at h; exact h
  | rt w st1 => rw [ei] at h; exact h
  | bk s1 st1 => rw [ei] at h; exact h
  | ct s1 st1 => rw [ei] at h; exact h
  | stuck => rw [ei] at h; exact h
end
/-- a clause that takes just the error D -/
def Only1 (sub : Nat → Option Bool) (D : Nat) : Prop := ∀ c, sub c = some true → c = D
theorem onlyN {D : Nat} : Only1 tabN D := fun c h => by cases h
theorem onlyT {D : Nat} {r : Nat → Option Bool} (h : Only1 r D) : Only1 (tabC D true r) D := fun c hc => by
  unfold tabC at hc
  split at hc
  · assumption
  · exact h c hc
theorem onlyF {D c0 : Nat} {r : Nat → Option Bool} (h : Only1 r D) : Only1 (tabC c0 false r) D := fun c hc => by
  unfold tabC at hc
  split at hc
  · cases hc
  · exact h c hc
theorem JCla.cons1D {X : Cx} {Cl : Nat → Addr} {x n : Str} {hc D : Nat} (i : Nat) {sub : Nat → Option Bool} {b₀ : Stmt} {suite : List Stmt} {np pos' : Pos} {hds : List ExceptHandler} {l : List MCl} {ms : Fl → MS} (hm : X.mg x = some (.ref (Cl hc)))
    (hsub : ∀ c b, sub c = some b → PySem.W.exmOne X.K (.ref (Cl c)) (.ref (Cl hc)) = some b) (ho : Only1 sub D)
    (hsu : ∀ (fs : Fl) (a : Addr) (oe : Obj) (d : Option Addr) (pn : List (Addr × Obj)), Zc (.ref (Cl D)) d oe → (∃ vs, oe.data = .fields vs) → QS (X.suite a ((a, oe) :: pn)) Cl i a fs d (b₀ :: suite) (ms fs)) (r : JCla X Cl hds l)
    (hi : X.N[i]? = some n := by rfl) (hl : X.env.kindOf n = some .local := by rfl) (hg : Gl X x := by rfl) (hdb : (x == ("__debug__" : Str)) = false := by decide) :
    JCla X Cl (.ExceptHandler (some (.Name x np)) (some n) (b₀ :: suite) pos' :: hds) ((sub, some i, fun _ fs => ms fs) :: l) :=
  .cons1 i hm hsub (fun c hc2 fs a oe d pn hz hf => by
    have := ho c hc2
    subst this
    exact hsu fs a oe d pn hz hf) r hi hl hg hdb
/-! ### errors that keep their arguments -/
/-- what __init__ leaves: one field; two fields -/
def spE1 (C : Addr) (f : Str) : Sp := fun vs H Q _ => ∃ a y, vs = [.ref a, y] ∧ H a = some (exo a C none) ∧ ∀ dx, H dx = none → dx ≠ a → Q .non (upd (upd H dx (exd dx [(f, y)])) a (exo a C (some dx)))
def spE2 (C : Addr) (f g : Str) : Sp := fun vs H Q _ => ∃ a y z, vs = [.ref a, y, z] ∧ H a = some (exo a C none) ∧ ∀ dx, H dx = none → dx ≠ a → Q .non (upd (upd (upd H dx (exd dx [(f, y)])) a (exo a C (some dx))) dx (exd dx [(g, z), (f, y)]))
structure XInit (K : PySem.W.Frag) (mg : Str → Option Value) (x : Str) (C fI : Addr) : Prop where
  g : mg x = some (.ref C)
  o : OexC K C
  i : PySem.W.findIn K (.ref C) "__init__" = some (some (.ref fI))
  t : PySem.W.typeIn K (.ref fI) = some (.type "function")
section
variable {P : Program} {w : World} {K : PySem.W.Frag} {mg : Str → Option Value} {base : Heap}
theorem init1_ok {qual : Str} {st : Stmt} {f C : Addr} {fd : FuncData} {N ps : List Str} {fl : Str} (F : Fun K "__init__" qual st f fd) (S : FnScope N ps (defScope st)) (hp : ps.length = 2) (hN : N.length = 2) (T : OexC K C) (hno : PySem.W.findIn K (.ref C) fl = some none)
    (hb : ∀ (cdv : Value) (A : Around) (outer : List Env) (s : Shared) (H : Hp) (E : XK), ∃ to te, PSs (cxOf CX0 P w K mg base N qual (defScope st) f cdv A outer s H E).nox (defBody st) (tOst K fl to te) ∧ (∀ σ H1 Q v, σ[0]? = some (some v) → Q v H1 → to σ H1 Q) ∧ (∀ σ H1 Q v, σ[1]? = some (some v) → Q v H1 → te σ H1 Q)) :
    FnOk P w K mg base CX0 1 f fd ps (spE1 C fl) := by
  refine F.ok S (fun vs H Q E h => ?_) (fun cdv A outer s H vs Q E hr h => ?_)
  · obtain ⟨a, y, rfl, -⟩ := h; exact hp.symm
  · obtain ⟨to, te, p, q0, q1⟩ := hb cdv A outer s H E
    obtain ⟨a, y, rfl, ha, k⟩ := h
    refine ⟨_, p, ?_⟩
    refine q1 _ _ _ y (by unfold L2.start; simp) (q0 _ _ _ (.ref a) (by unfold L2.start; simp) ⟨a, C, rfl, T, hno, .inl ⟨ha, fun dx h1 h2 => ?_⟩⟩)
    exact k dx h1 h2
end
section
variable {P : Program} {w : World} {K : PySem.W.Frag} {mg : Str → Option Value} {base : Heap}
theorem init2_ok {qual : Str} {st : Stmt} {f C : Addr} {fd : FuncData} {N ps : List Str} {fl gl : Str} (F : Fun K "__init__" qual st f fd) (S : FnScope N ps (defScope st)) (hp : ps.length = 3) (hN : N.length = 3) (T : OexC K C) (hno : PySem.W.findIn K (.ref C) fl = some none) (hno2 : PySem.W.findIn K (.ref C) gl = some none)
    (hb : ∀ (cdv : Value) (A : Around) (outer : List Env) (s : Shared) (H : Hp) (E : XK), ∃ to te te2, PSs (cxOf CX0 P w K mg base N qual (defScope st) f cdv A outer s H E).nox (defBody st) (tSeq (tOst K fl to te) (tOst K gl to te2)) ∧ (∀ σ H1 Q v, σ[0]? = some (some v) → Q v H1 → to σ H1 Q) ∧ (∀ σ H1 Q v, σ[1]? = some (some v) → Q v H1 → te σ H1 Q) ∧ (∀ σ H1 Q v, σ[2]? = some (some v) → Q v H1 → te2 σ H1 Q)) :
    FnOk P w K mg base CX0 1 f fd ps (spE2 C fl gl) := by
  refine F.ok S (fun vs H Q E h => ?_) (fun cdv A outer s H vs Q E hr h => ?_)
  · obtain ⟨a, y, z, rfl, -⟩ := h; exact hp.symm
  · obtain ⟨to, te, te2, p, q0, q1, q2⟩ := hb cdv A outer s H E
    obtain ⟨a, y, z, rfl, ha, k⟩ := h
    refine ⟨_, p, ?_⟩
    refine q1 _ _ _ y (by unfold L2.start; simp) (q0 _ _ _ (.ref a) (by unfold L2.start; simp) ⟨a, C, rfl, T, hno, .inl ⟨ha, fun dx h1 h2 => ?_⟩⟩)
    refine q2 _ _ _ z (by unfold L2.start; simp) (q0 _ _ _ (.ref a) (by unfold L2.start; simp) ⟨a, C, rfl, T, hno2, .inr ⟨dx, [(fl, y)], upd_same, ?_, by simp, k dx h1 h2⟩⟩)
    rw [upd_ne h2, upd_same]
end
/-- the promise of an __init__ that keeps its arguments under the names ns -/
def KeepsF (C : Addr) (ns : List Str) (sp : Sp) : Prop := ∀ (vs : List V) (H1 : Hp) (a : Addr) (Q : XK), vs.length = ns.length → H1 a = none → (∀ d, H1 d = none → Q (.ref C) (some d) (upd H1 d (.xd (List.zip ns vs).reverse))) →
  sp (.ref a :: (vs ++ [])) (upd H1 a (exo a C none)) (fun v H2 => v = .non ∧ ∃ (d : Addr) (fs : List (Str × V)), H2 a = some (exo a C (some d)) ∧ H2 d = some (exd d fs) ∧ H1 d = none ∧ Q (.ref C) (some d) (upd (del H2 a) d (.xd fs))) (fun _ _ _ => False)
theorem keeps1 {C : Addr} {f : Str} : KeepsF C [f] (spE1 C f) := fun vs H1 a Q hl ha k => by
  match vs, hl with
  | [y], _ =>
    refine ⟨a, y, rfl, upd_same, fun dx h1 h2 => ⟨rfl, dx, [(f, y)], upd_same, by rw [upd_ne h2, upd_same], by rwa [upd_ne h2] at h1, ?_⟩⟩
    have hd : H1 dx = none := by rwa [upd_ne h2] at h1
    have e : upd (del (upd (upd (upd H1 a (exo a C none)) dx (exd dx [(f, y)])) a (exo a C (some dx))) a) dx (.xd [(f, y)]) = upd H1 dx (.xd [(f, y)]) := by
      funext b
      by_cases hb : b = dx
      · subst hb; rw [upd_same, upd_same]
      · rw [upd_ne hb, upd_ne hb]
        by_cases hb2 : b = a
        · subst hb2; rw [del_same, ha]
        · rw [del_ne hb2, upd_ne hb2, upd_ne hb, upd_ne hb2]
    rw [e]
    exact k dx hd
theorem keeps2 {C : Addr} {f g : Str} : KeepsF C [f, g] (spE2 C f g) := fun vs H1 a Q hl ha k => by
  match vs, hl with
  | [y, z], _ =>
    refine ⟨a, y, z, rfl, upd_same, fun dx h1 h2 => ⟨rfl, dx, [(g, z), (f, y)], by rw [upd_ne h2.symm, upd_same], upd_same, by rwa [upd_ne h2] at h1, ?_⟩⟩
    have hd : H1 dx = none := by rwa [upd_ne h2] at h1
    have e : upd (del (upd (upd (upd (upd H1 a (exo a C none)) dx (exd dx [(f, y)])) a (exo a C (some dx))) dx (exd dx [(g, z), (f, y)])) a) dx (.xd [(g, z), (f, y)]) = upd H1 dx (.xd [(g, z), (f, y)]) := by
      funext b
      by_cases hb : b = dx
      · subst hb; rw [upd_same, upd_same]
      · rw [upd_ne hb, upd_ne hb]
        by_cases hb2 : b = a
        · subst hb2; rw [del_same, ha]
        · rw [del_ne hb2, upd_ne hb, upd_ne hb2, upd_ne hb, upd_ne hb2]
    rw [e]
    exact k dx hd
@[simp] def mRaiseF (c : Nat) (ns : List Str) (a : MA) : MS := fun s st => match a s st with
  | .ok ws st1 => if ws.length = ns.length then .exc c (List.zip ns ws).reverse st1 else .stuck
  | .exc c2 fs st1 => .exc c2 fs st1
  | .stuck => .stuck
theorem rf_append {K : PySem.W.Frag} {β : Bt} {H : Hp} {κ : Type} : ∀ {fs gs : List (κ × W)} {us vs : List (κ × V)}, RF K β H fs us → RF K β H gs vs → RF K β H (fs ++ gs) (us ++ vs)
  | _, _, _, _, .nil, s => s
  | _, _, _, _, .cons h r, s => .cons h (rf_append r s)
theorem rf_reverse {K : PySem.W.Frag} {β : Bt} {H : Hp} {κ : Type} : ∀ {fs : List (κ × W)} {us : List (κ × V)}, RF K β H fs us → RF K β H fs.reverse us.reverse
  | _, _, .nil => .nil
  | _, _, .cons h r => by
    rw [List.reverse_cons, List.reverse_cons]
    exact rf_append (rf_reverse r) (.cons h .nil)
theorem rf_zip {K : PySem.W.Frag} {β : Bt} {H : Hp} : ∀ (ns : List Str) {ws : List W} {vs : List V}, RVs K β H ws vs → RF K β H (List.zip ns ws) (List.zip ns vs)
  | [], _, _, _ => .nil
  | _ :: _, _, _, .nil => .nil
  | n :: ns, _, _, .cons h r => .cons h (rf_zip ns r)
theorem js_raiseF {X : Cx} {Cl : Nat → Addr} {E : XK} {c k fI : Nat} {x : Str} {ns : List Str} {fd : FuncData} {ps : List Str} {sp : Sp} {e : Expr} {es : List Expr} {mr : MA} {p pos pos' : Pos} (T : XInit X.K X.mg x (Cl c) fI) (F1 : FnOk X.prog X.w X.K X.mg X.base CX0 k fI fd ps sp) (hk : KeepsF (Cl c) ns sp) (hr : Room (k + 1) X.A) (hb : Binds X.K fd ps [])
    (tk : Takes X (fun cls d _ H => E cls d H)) (ha : JA X Cl E (e :: es) mr) (hn : ns.length ≤ 1000 := by decide) (hc : X.calm = true := by rfl) (hg : Gl X x := by rfl) (hdb : (x == ("__debug__" : Str)) = false := by decide) (he : starEach (e :: es) X.env = (false, eval e X.env) :: starEach es X.env := by rfl) (hpl : (backTo pos (starEach es X.env)).any (·.1) = false := by rfl) :
    JS X Cl E (.Raise (some (.Call (.Name x p) (e :: es) [] pos)) none pos') (mRaiseF c ns mr) := by
  obtain ⟨t, pr, q⟩ := ha.ex
  refine ⟨_, ps_raise hc tk (pmk_oex T.o T.i T.t F1 hr hb .nil pass0 hg T.g pr hdb he hpl), fun β H σ s st D hr hs h => q β H σ s st _ hr hs ?_⟩
  simp only [mRaiseF] at h
  cases ei : mr s st with
  | stuck => rw [ei] at h; exact h
  | exc c2 fs st1 => rw [ei] at h; exact h
  | ok ws st1 =>
    rw [ei] at h
    simp only at h
    intro β1 H1 vs e1 hr1 rv
    split at h
    · rename_i hl
      have hl2 : vs.length = ns.length := by rw [← rv.length]; exact hl
      refine ⟨by omega, fun a ha => ?_⟩
      refine hk vs H1 a (fun cls d H' => E cls d H') hl2 ha fun d hd => ?_
      have ex : Ext X.K β1 H1 β1 (upd H1 d (.xd (List.zip ns vs).reverse)) := Ext.new hd
      exact h β1 _ (some d) (e1.trans ex) (hr1.new hd) (.inr ⟨d, _, rfl, upd_same, rf_reverse (rf_zip ns (rv.ext ex))⟩)
    · exact h.elim
end Mi
/-! The mirror layer, part U: dicts with tuple keys: d[..] = v, len(d). -/
namespace Mi
open PySem L2
/-- d[(..)] = v -/
@[simp] def mTPut (d : ME) (k : MA) (e : ME) : MS := fun s st => (e s st).run fun w st1 => (d s st1).run fun x st2 => (k s st2).run fun ks st3 => match x with
  | .ref r => match st3[r]?, keysT ks with
    | some (.dT kvs), some k => if kvs.length < sizeLine ∧ ks.length ≤ sizeLine then .nx s (st3.set r (.dT (putKW kvs k w))) else .stuck
    | _, _ => .stuck
  | _ => .stuck
section
variable {X : Cx} {Cl : Nat → Addr} {E : XK} {pos pos' tpos : Pos}
theorem js_tput {o e : Expr} {es : List Expr} {k : Nat} {md ma : ME} {mk : MA} (hu : X.A.units + 1 < cLine) (ho : JE X Cl E o md) (hi : JA X Cl E es mk) (he : JE X Cl E e ma) (hs : swapsWith e (some (.Subscript o (.Tuple es k tpos) pos')) pos.line X.env = pure false := by rfl) :
    JS X Cl E (.Assign [.Subscript o (.Tuple es k tpos) pos'] e pos) (mTPut md mk ma) := by
  obtain ⟨_, p1, q1⟩ := he.ex
  obtain ⟨_, p2, q2⟩ := ho.ex
  obtain ⟨_, p3, q3⟩ := hi.ex
  refine ⟨_, ps_dput hu p2 (pe_tup p3) p1 hs, fun β H σ s st D hr hs h => q1 β H σ s st _ hr hs (h.run fun x st1 β1 H1 v _ e1 hr1 rx h1 => q2 β1 H1 σ s st1 _ hr1 (hs.ext e1) (h1.run fun y st2 β2 H2 u _ e2 hr2 ry0 h2 =>
    q3 β2 H2 σ s st2 _ hr2 ((hs.ext e1).ext e2) (h2.run fun ks st3 β3 H3 vs _ e3 hr3 rk h3 => ?_)))⟩
  have ry := ry0.ext e3
  cases y with
  | ref r =>
    simp only at h3
    split at h3
    · rename_i kvs k es ek
      split at h3
      · rename_i hl
        refine ⟨by rw [← rk.length]; exact hl.2, fun p hp => ?_⟩
        have e4 : Ext X.K β3 H3 β3 (upd H3 p (.tup vs)) := Ext.new hp
        have hr4 : HR X.K Cl β3 (upd H3 p (.tup vs)) st3 := hr3.new hp
        obtain ⟨a, rfl, hb, gs, hv, hrs⟩ := (ry.ext e4).atRef hr4 es (by intro z; cases z)
        have em : Ext X.K β3 (upd H3 p (.tup vs)) β3 (upd (upd H3 p (.tup vs)) a (.dT (putK gs k v))) := Ext.mut hr4 hb hv trivial
        exact ⟨a, _, rfl, .inr ⟨gs, k, p, hv, rfl, by rw [upd_same, keysT_ok rk ek], by rw [← hrs.length]; exact hl.1, rfl⟩, h3 β3 _ σ (e4.trans em) (hr4.mut hb hv trivial ⟨_, upd_same, (hrs.put k (((rx.ext e2).ext e3).ext e4)).ext em⟩) (((((hs.ext e1).ext e2).ext e3).ext e4).ext em)⟩
      · exact h3.elim
    · exact h3.elim
  | _ => exact h3.elim
/-- len of a dict, whatever its keys are -/
theorem len_raw {prog : Program} {w : World} {A : Around} {E : Value → Shared → Prop} {s : Shared} {d : Addr} {es : Array DictEntry} {ep : Nat} {Q : Value → Shared → Prop} (hd : (d == sysModules) = false) (ty : s.TypeIs (.ref d) "dict") (hm : s.heap.DictRaw d es ep) (hfit : (es.size : Int) < 2 ^ 63)
    (h : ∀ t, Q (.int es.size t) { s with toks := t + 1 }) : wpAny (model prog w) A (call (.builtin "len") [.ref d]) Q E s := by
  have inner : ∀ A : Around, wpAny (model prog w) A (callSpecial? (.ref d) (Str.ofString "__len__")) (fun r s2 => r = some (.int es.size s.toks) ∧ s2 = { s with toks := s.toks + 1 }) E s := fun A =>
    wpAny_callSpecial?_slot (name := Str.ofString "__len__") ty F.slot_dict_len (PySem.call_len_raw hd hm ⟨rfl, rfl⟩)
  have body : ∀ A : Around, wpAny (model prog w) A (Builtin.«len» ⟨[.ref d], []⟩) (fun fin s' => ∃ r, fin = .done (.ret r) ∧ Q r s') E s := by
    intro A
    unfold Builtin.«len»
    refine wpAny_bind (wpAny_pure (wpAny_bind (wpAny_mono (inner A) (fun r s2 e2 => ?_) fun _ _ z => z)))
    obtain ⟨rfl, rfl⟩ := e2
    refine wpAny_bind (wpAny_holding (wpAny_pure (wpAny_bind (wpAny_letGo ?_))))
    show wpAny _ _ (if ((es.size : Nat) : Int) < 0 then _ else if ((es.size : Nat) : Int) ≥ 2 ^ 63 then _ else _) _ _ _
    rw [if_neg (by omega), if_neg (by omega)]
    exact wpAny_bind (wpAny_mkInt (wpAny_pure ⟨_, rfl, h _⟩))
  exact Calls.call_function_entry kind_len plain_len entry_len (args_len1 _) (body _)
/-- len(d), a dict with tuple keys -/
theorem call_lenT {X : Cx} : CallR X (.builtin "len") (fun xs H Q => ∃ a kvs, xs = [.ref a] ∧ H a = some (.dT kvs) ∧ Q (.int kvs.length) H) := by
  intro pins s σ H xs us Q I r h
  obtain ⟨a, kvs, rfl, ha, q⟩ := h
  cases r with
  | cons rx rr =>
    cases rr
    cases rx
    obtain ⟨z, hd, vs, rel, dd⟩ := dt_of I.hok ha
    have ty : s.TypeIs (.ref a) "dict" := dd.typeIs
    obtain ⟨es, ep, raw, rl, -⟩ := Heap.DictOfH.raw dd
    rw [rel.length] at q
    refine len_raw hd ty raw (by rw [rl]; have := rel.length; rw [sizeLine_eq] at z; omega) fun t => ?_
    rw [rl]
    exact ⟨.int vs.length, H, I.tok _, ⟨_, rfl⟩, q⟩
def mLenT : List W → Sto → Out W := fun xs st => match xs with
  | [.ref i] => match st[i]? with
    | some (.dT kvs) => .ok (.int (kvs.length : Nat)) st
    | _ => .stuck
  | _ => .stuck
theorem c_lenT : CallR X (.builtin "len") (fun xs H Q => ∃ a kvs, xs = [.ref a] ∧ H a = some (.dT kvs) ∧ Q (.int kvs.length) H) ∧ SCal X.K Cl E (fun xs H Q => ∃ a kvs, xs = [.ref a] ∧ H a = some (.dT kvs) ∧ Q (.int kvs.length) H) mLenT := by
  refine ⟨call_lenT, fun β H st xs vs Q hr r h => ?_⟩
  unfold mLenT at h
  split at h
  · rename_i i
    split at h
    · rename_i kvs es
      obtain ⟨v, rfl, rv⟩ := r.one
      obtain ⟨a, rfl, hb, gs, hv, hrs⟩ := rv.atRef hr es (by intro z; cases z)
      exact ⟨a, gs, rfl, hv, PoG.val h hr (by rw [hrs.length]; exact .int _)⟩
    · exact h.elim
  · exact h.elim
end
/-- list(range(e)) -/
def mListRg (a : ME) : ME := fun s st => (a s st).bind fun x st1 => match x with
  | .int n => if 0 ≤ n ∧ n ≤ 1000000 then .ok (.lst (rngW 0 n.toNat)) st1 else .stuck
  | _ => .stuck
theorem je_listRg {X : Cx} {Cl : Nat → Addr} {E : XK} {pos p p2 pos2 : Pos} {e : Expr} {m : ME} (hm : X.mg "list" = none) (hmr : X.mg "range" = none) (ha : JE X Cl E e m) (hc : X.calm = true := by rfl) (hg : Gl X "list" := by rfl) (hgr : Gl X "range" := by rfl)
    (n1 : starEach [e] X.env = (false, eval e X.env) :: starEach [] X.env := by rfl) (n2 : starEach [.Call (.Name "range" p2) [e] [] pos2] X.env = (false, eval (.Call (.Name "range" p2) [e] [] pos2) X.env) :: starEach [] X.env := by rfl) :
    JE X Cl E (.Call (.Name "list" p) [.Call (.Name "range" p2) [e] [] pos2] [] pos) (mListRg m) := by
  obtain ⟨_, p1, q1⟩ := ha.ex
  refine ⟨_, pe_listRg hc hg hm (prg_1 hgr hmr p1 n1) n2, fun β H σ s st Q hr hs h => q1 β H σ s st _ hr hs ?_⟩
  refine h.bind fun x st1 β1 H1 v eo e1 hr1 rx h1 => ?_
  clear eo
  split at h1
  · rename_i n
    cases rx
    split at h1
    · rename_i hn
      refine ⟨n, rfl, ⟨by omega, by omega, by omega, by omega⟩, fun l hl => ?_⟩
      have rv : RVs X.K β1 H1 (rngW 0 n.toNat) (rgV 0 n) := by
        unfold rngW rgV
        rw [Int.sub_zero]
        generalize List.range n.toNat = ks
        induction ks with
        | nil => exact .nil
        | cons k ks ih => exact .cons (.int _) ih
      exact Po.lst h1 hr1 hl rv
    · exact h1.elim
  · exact h1.elim
end Mi
/-! The mirror layer, part W: return [f(..)] in a try's body; t[::-1] of a tuple. -/
namespace HT
open PySem PySem.Spec PyProof.Rows
section
variable {prog : Program} {w : World} {A : Around} {E : Value → Shared → Prop} {s : Shared}
theorem adjust_rev (n : Nat) : Builtin.Slice.sliceAdjust none none (-1) (n : Int) = ((n : Int) - 1, -1) := rfl
theorem places_rev (n : Nat) : Builtin.Slice.slicePlaces ((n : Int) - 1) (-1) (-1) = n := by
  unfold Builtin.Slice.slicePlaces
  have h1 : ¬ ((-1 : Int) > 0) := by omega
  simp only [h1, if_false, Int.neg_neg, Int.ediv_one]
  split <;> omega
theorem sliceApplied_rev {sl : Addr} {tk : Tok} {n : Nat} {Q : Int × Int × Nat → Shared → Prop} (hs : s.heap.IsSliceOf sl .none .none (.int (-1) tk)) (h : Q ((n : Int) - 1, -1, n) s) : wpAny (model prog w) A (Builtin.Slice.sliceApplied (.ref sl) (pure (n : Int))) Q E s := by
  obtain ⟨os, hos, hcs, hds⟩ := id hs
  unfold Builtin.Slice.sliceApplied Builtin.Slice.sliceFields
  refine wpAny_bind (wpAny_bind (wpAny_field hos hds (x := .none) rfl (wpAny_bind (wpAny_field hos hds (x := .none) rfl (wpAny_bind (wpAny_field hos hds (x := .int (-1) tk) rfl (wpAny_pure ?_)))))))
  refine wpAny_bind (slicePart_int ?_)
  show wpAny _ _ (if ((-1 : Int) == 0) = true then _ else _) _ _ s
  rw [if_neg (by decide)]
  refine wpAny_bind (slicePart_none (wpAny_bind (slicePart_none (wpAny_bind (wpAny_pure ?_)))))
  show wpAny _ _ (match Builtin.Slice.sliceAdjust none none (-1) (n : Int) with | (lo, hi) => pure (lo, (-1 : Int), Builtin.Slice.slicePlaces lo hi (-1))) _ _ s
  rw [adjust_rev n]
  show wpAny _ _ (pure ((n : Int) - 1, (-1 : Int), Builtin.Slice.slicePlaces ((n : Int) - 1) (-1) (-1))) _ _ s
  rw [places_rev]
  exact wpAny_pure h
theorem fm_congr {α β : Type} {f g : α → Option β} : ∀ l : List α, (∀ x ∈ l, f x = g x) → l.filterMap f = l.filterMap g
  | [], _ => rfl
  | x :: l, h => by
    rw [List.filterMap_cons, List.filterMap_cons, h x (by simp), fm_congr l fun y hy => h y (by simp [hy])]
theorem pick_rev (xs : Array Value) : ((List.range xs.size).filterMap fun (m : Nat) => xs[(((xs.size : Int) - 1) + (m : Int) * (-1)).toNat]?).toArray = xs.toList.reverse.toArray := by
  congr 1
  have e : (List.range xs.size).map (fun k => xs.size - 1 - k) = (List.range xs.size).reverse := by
    apply List.ext_getElem
    · simp
    · intro i h1 h2
      rw [List.getElem_map, List.getElem_reverse]
      simp
  have e2 : (List.range xs.size).filterMap (fun (m : Nat) => xs[(((xs.size : Int) - 1) + (m : Int) * (-1)).toNat]?) = ((List.range xs.size).map (fun k => xs.size - 1 - k)).filterMap (fun k => xs[k]?) := by
    rw [List.filterMap_map]
    refine fm_congr _ fun m hm => ?_
    have := List.mem_range.mp hm
    have e3 : (((xs.size : Int) - 1) + (m : Int) * (-1)).toNat = xs.size - 1 - m := by omega
    simp only [e3, Function.comp]
  rw [e2, e, List.filterMap_reverse]
  have h := pick_run xs 0 xs.size
  have e4 : (List.range xs.size).map (0 + ·) = List.range xs.size := by
    rw [show ((0 + ·) : Nat → Nat) = id from funext fun k => Nat.zero_add k, List.map_id]
  rw [e4, List.drop_zero, List.take_of_length_le (by rw [Array.length_toList]; exact Nat.le_refl _)] at h
  rw [h]
theorem getItem_tuple_rev {t sl : Addr} {items : Array Value} {tk : Tok} {Q : Value → Shared → Prop} (ht : IsTup s.heap t items) (hs : s.heap.IsSliceOf sl .none .none (.int (-1) tk))
    (h : Q (.ref s.heap.objs.size) { s with heap := s.heap.push { cls := .type "tuple", data := .seq items.toList.reverse.toArray } })
    (hsz : items.size ≤ sizeLine) : wpAny (model prog w) A (getItem (.ref t) (.ref sl)) Q E s := by
  have htake : sizeOk (.seq items.toList.reverse.toArray) := by
    show items.toList.reverse.toArray.size ≤ sizeLine
    rw [List.size_toArray, List.length_reverse, Array.length_toList]
    exact hsz
  obtain ⟨os, hos, hcs, hds⟩ := id hs
  have hTs : s.TypeIs (.ref sl) "slice" := ⟨os, hos, hcs⟩
  unfold getItem
  try with_reducible refine wpAny_holding ?_
  first | refine wpAny_bind (wpAny_pure ?_) | skip
  refine wpAny_bind (wpAny_sequenceKey ht.typeIs (by decide) ?_)
  refine wpAny_bind (wpAny_callSpecial?_slot (name := Str.ofString "__getitem__") ht.typeIs PyProof.Rows.slot_tuple_getitem
    (wpAny_call_entry PyProof.Rows.slot_tuple_getitem ht.typeIs entry_tuple_getitem ?_ (args_tuple_getitem _ _)))
  show wpAny _ _ (Builtin.Tuple.tupleItemsOf (.ref t) >>= _) _ _ s
  refine wpAny_bind (tupleItemsOf_ ht ?_)
  refine wpAny_bind (wpAny_typeOf hTs ?_)
  rw [if_pos (by decide)]
  refine wpAny_bind (sliceApplied_rev hs ?_)
  have hno : ¬ ((((items.size : Int) - 1) == 0 && (-1 : Int) == 1 && items.size == items.size) = true) := by
    intro q
    rw [Bool.and_eq_true, Bool.and_eq_true] at q
    have := eq_of_beq q.1.2
    omega
  show wpAny _ _ (if (((items.size : Int) - 1) == 0 && (-1 : Int) == 1 && items.size == items.size) = true then _ else _) _ _ s
  rw [if_neg hno, pick_rev]
  first
    | exact wpAny_bind (m := Builtin.Tuple.tupleExact _) (wpAny_newObj_type (wpAny_pure ⟨_, rfl, wpAny_pure h⟩) htake)
    | exact wpAny_bind (m := Builtin.Tuple.tupleExact _) (wpAny_newObj_type (wpAny_bind (wpAny_pure (wpAny_pure ⟨_, rfl, wpAny_pure h⟩))) htake)
    | exact wpAny_bind (wpAny_bind (m := Builtin.Tuple.tupleExact _) (wpAny_newObj_type (wpAny_pure (wpAny_pure ⟨_, rfl, wpAny_pure h⟩)) htake))
    | exact wpAny_bind (wpAny_bind (m := Builtin.Tuple.tupleExact _) (wpAny_newObj_type (wpAny_pure ⟨_, rfl, wpAny_pure h⟩) htake))
end
end HT
namespace Mi
open PySem L2 PyProof.Rows HT
section
variable {X : Cx} {Cl : Nat → Addr} {W : WX} {e : Expr} {m : ME} {pos : Pos}
theorem jc_lst1 (h : JC X Cl W e m) (hs : starEach [e] X.env = (false, eval e X.env) :: starEach [] X.env := by rfl) : JC X Cl W (.List [e] pos) (mLst (mCons m mNil)) := by
  obtain ⟨t, p, q⟩ := h.ex
  refine ⟨_, pe_lst (pa_cons p pa_nil hs), fun β H σ s st Q hr hs h => q β H σ s st _ hr hs ?_⟩
  have h' : Po X.K Cl (WE W σ) β H Q ((m s st).bind fun x st1 => .ok (.lst [x]) st1) := by
    cases hm : m s st <;> simpa [mLst, mCons, mNil, hm, sizeLine_eq] using h
  exact h'.bind fun x st1 β1 H1 v _ e1 hr1 rx h1 => ⟨by simp [sizeLine_eq], fun l hl => Po.lst h1 hr1 hl (.cons rx .nil)⟩
end
def tRev (K : PySem.W.Frag) (te tk : TE) : TE := fun σ H Q => te σ H fun x H1 => tk σ H1 fun y H2 => y = .int (-1) ∧ ∃ a xs, x = .ref a ∧ SqT K H2 a xs ∧ ∀ p, H2 p = none → Q (.ref p) (upd H2 p (.tup xs.reverse))
theorem pe_rev {X : Cx} {e k : Expr} {te tk : TE} {pos p2 : Pos} (he : PE X e te) (hk : PE X k tk) : PE X (.Subscript e (.Slice none none (some k) p2) pos) (tRev X.K te tk) := by
  refine ⟨fun pins s σ H Q I h => ?_⟩
  refine Subscript_ (thn (he.run pins s σ H _ I h) fun v s1 ⟨x, H1, I1, r1, q1⟩ => ?_)
  refine wpAny_Slice ?_
  rw [evalPart_none]
  refine wpAny_pure ?_
  refine wpAny_pure ?_
  show wpAny _ _ (eval k X.env) _ _ s1
  refine thn (hk.run pins s1 σ H1 _ I1 q1) fun u s2 ⟨y, H2, I2, r2, q2⟩ => ?_
  obtain ⟨rfl, a, xs, rfl, hx, q⟩ := q2
  obtain ⟨tk', rfl⟩ := r2
  have I3 : Inv X pins σ H2 { s2 with heap := s2.heap.push { cls := .type "slice", data := .fields #[.none, .none, .int (-1) tk'] } } := I2.kept (t' := s2.toks) fun b ob q => Heap.get?_push_of_some _ q
  cases r1
  obtain ⟨its, r, ht, hz⟩ := I3.tuple hx
  have hlen : its.toArray.size = xs.length := by rw [List.size_toArray]; exact r.length.symm
  show wpAny (model X.prog X.w) X.A (subscriptTail e (.Slice none none (some k) p2) (.ref a) (.ref s2.heap.objs.size)) (EP X pins σ Q) X.xe _
  refine tail_any (ops := [.ref a, .ref s2.heap.objs.size]) ht.typeIs PyProof.Rows.slot_tuple_getitem.lookup ?_ (by with_unfolding_all rfl)
  refine getItem_tuple_rev ht (Heap.IsSliceOf.new ..) ?_ (by rw [hlen]; exact hz)
  refine ⟨.ref _, _, I3.laid (t' := s2.toks) (o := .tup xs.reverse) (fun b ob q => Heap.get?_push_of_some _ q) (Nat.le_refl _) ?_, rfl, q _ (I3.hok.fresh (Nat.le_refl _))⟩
  exact ⟨by rw [List.length_reverse]; exact hz, _, r.reverse, IsTup.new _ _⟩
@[simp] def mRev (a k : ME) : ME := fun s st => (a s st).bind fun x st1 => (k s st1).bind fun y st2 => match x, y with
  | .tup ws, .int i => if i = -1 then .ok (.tup ws.reverse) st2 else .stuck
  | _, _ => .stuck
section
variable {X : Cx} {Cl : Nat → Addr} {E : XK} {pos p2 : Pos} {ma mk : ME} {a k : Expr}
theorem je_rev (ha : JE X Cl E a ma) (hk : JE X Cl E k mk) : JE X Cl E (.Subscript a (.Slice none none (some k) p2) pos) (mRev ma mk) := by
  obtain ⟨_, p1, q1⟩ := ha.ex
  obtain ⟨_, p2, q2⟩ := hk.ex
  refine ⟨_, pe_rev p1 p2, fun β H σ s st Q hr hs h => q1 β H σ s st _ hr hs (h.bind fun x st1 β1 H1 v _ e1 hr1 rx1 h1 => q2 β1 H1 σ s st1 _ hr1 (hs.ext e1) (h1.bind fun y st2 β2 H2 u _ e2 hr2 ry h2 => ?_))⟩
  have rx := rx1.ext e2
  split at h2
  · split at h2
    · rename_i hi
      subst hi
      cases ry
      cases rx with
      | @tup p ws vs h3 r3 => exact ⟨rfl, p, vs, rfl, h3, fun l hl => Po.tup h2 hr2 hl r3.reverse⟩
    · exact h2.elim
  · exact h2.elim
end
/-- t * k of a tuple, k from 2 on -/
@[simp] def mMulT : M2 := fun x y st => match x, y with
  | .tup ws, .int k => if ws ≠ [] ∧ 2 ≤ k ∧ k ≤ 1000 ∧ ws.length ≤ 1000 then .ok (.tup (List.replicate k.toNat ws).flatten) st else .stuck
  | _, _ => .stuck
theorem o_mulT {X : Cx} {Cl : Nat → Addr} {E : XK} : OpR X (binaryOp .Mult) (rRepT X.K) ∧ SOp X.K Cl E (rRepT X.K) mMulT := by
  refine ⟨op_repT, fun β H st x y v u Q hr rx ry h => ?_⟩
  unfold mMulT at h
  split at h
  · split at h
    · rename_i hz
      cases ry
      cases rx with
      | @tup p ws vs h3 r3 => exact ⟨p, _, vs, rfl, rfl, h3, (fun e => hz.1 (by subst e; cases r3; rfl)), hz.2.1, hz.2.2.1, by rw [← r3.length]; exact hz.2.2.2, fun l hl => Po.tup h hr hl (r3.rep _)⟩
    · exact h.elim
  · exact h.elim
end Mi
/-! The mirror layer, part N: d.get(k, x); a dict of the module with texts as keys and numbers as values. -/
namespace Mi
open PySem L2 PyProof.Rows
@[simp] def mDGet2 (d k x : ME) : ME := fun s st => (d s st).bind fun a st1 => match a with
  | .ref j => match st1[j]? with
    | some (.dK _) => (k s st1).bind fun y st2 => (x s st2).bind fun z st3 => match st3[j]?, toKey y with
      | some (.dK kvs), some k => .ok ((valW kvs k).getD z) st3
      | _, _ => .stuck
    | _ => .stuck
  | _ => .stuck
section
variable {X : Cx} {Cl : Nat → Addr} {E : XK} {pos p apos cpos : Pos} {md mk mx : ME} {o e f : Expr}
theorem je_dget2 (hu : X.A.units + 1 < cLine) (ho : JE X Cl E o md) (he : JE X Cl E e mk) (hf : JE X Cl E f mx) (m : L2.M2 X o "get" apos e f cpos := by exact ⟨rfl, rfl, rfl, rfl⟩) : JE X Cl E (.Call (.Attribute o "get" apos) [e, f] [] cpos) (mDGet2 md mk mx) := by
  obtain ⟨_, p1, q1⟩ := ho.ex
  obtain ⟨_, p2, q2⟩ := he.ex
  obtain ⟨_, p3, q3⟩ := hf.ex
  refine ⟨_, pe_dget2 hu p1 p2 p3 m, fun β H σ s st Q hr hs h => q1 β H σ s st _ hr hs (h.bind fun x st1 β1 H1 v _ e1 hr1 rx1 h1 => ?_)⟩
  cases x with
  | ref j =>
    simp only at h1
    split at h1
    · rename_i kv1 es1
      obtain ⟨a, rfl, _, gs1, hg1, -⟩ := rx1.atRef hr1 es1 (by intro z; cases z)
      refine ⟨a, rfl, .inl ⟨gs1, .inl hg1⟩, q2 β1 H1 σ s st1 _ hr1 (hs.ext e1) (h1.bind fun y st2 β2 H2 u _ e2 hr2 ry2 h2 => q3 β2 H2 σ s st2 _ hr2 ((hs.ext e1).ext e2) (h2.bind fun z st3 β3 H3 t _ e3 hr3 rz h3 => ?_))⟩
      have rx := rx1.ext (e2.trans e3)
      have ry := ry2.ext e3
      split at h3
      · rename_i kvs k es ek
        obtain ⟨a', ea, _, gs, hg, hrs⟩ := rx.atRef hr3 es (by intro z; cases z)
        cases ea
        cases ev : valW kvs k with
        | none =>
          rw [ev] at h3
          exact ⟨none, .inl ⟨gs, k, .inl hg, toKey_ok ry ek, (hrs.valN ev).symm⟩, PoG.val h3 hr3 rz⟩
        | some w =>
          rw [ev] at h3
          obtain ⟨v, hv, rv⟩ := hrs.val ev
          exact ⟨some v, .inl ⟨gs, k, .inl hg, toKey_ok ry ek, hv.symm⟩, PoG.val h3 hr3 rv⟩
      · exact h3.elim
    · exact h1.elim
  | _ => exact h1.elim
end
/-! ### a dict of the module -/
abbrev TabZ := List (Str × Option Int)
def lookZ (tz : TabZ) (z : Str) : Option (Option Int) := (tz.find? fun p => decide (p.1 = z)).map (·.2)
structure KDt (K : PySem.W.Frag) (w : World) (d : Addr) (tz : TabZ) : Prop where
  D : ∃ es n, KDict K w d es n
  n : ∀ z, lookZ tz z = some none → PySem.W.nsIn K d z = some none
  i : ∀ z i, lookZ tz z = some (some i) → ∃ t, PySem.W.nsIn K d z = some (some (.int i t))
theorem KDt.nil {K : PySem.W.Frag} {w : World} {d : Addr} {es : Array DictEntry} {n : Nat} (D : KDict K w d es n) : KDt K w d [] := ⟨⟨es, n, D⟩, fun z h => by simp [lookZ] at h, fun z i h => by simp [lookZ] at h⟩
theorem lookZ_cons (z : Str) (o : Option Int) (tz : TabZ) (y : Str) : lookZ ((z, o) :: tz) y = if z = y then some o else lookZ tz y := by
  unfold lookZ
  rw [List.find?_cons]
  by_cases h : z = y
  · simp [h]
  · simp [h]
theorem KDt.cn {K : PySem.W.Frag} {w : World} {d : Addr} {tz : TabZ} {z : Str} (T : KDt K w d tz) (h : PySem.W.nsIn K d z = some none) : KDt K w d ((z, none) :: tz) := by
  refine ⟨T.D, fun y e => ?_, fun y i e => ?_⟩
  · rw [lookZ_cons] at e
    split at e
    · rename_i hz; subst hz; exact h
    · exact T.n y e
  · rw [lookZ_cons] at e
    split at e
    · cases e
    · exact T.i y i e
theorem KDt.ci {K : PySem.W.Frag} {w : World} {d : Addr} {tz : TabZ} {z : Str} {i : Int} {t : Tok} (T : KDt K w d tz) (h : PySem.W.nsIn K d z = some (some (.int i t))) : KDt K w d ((z, some i) :: tz) := by
  refine ⟨T.D, fun y e => ?_, fun y j e => ?_⟩
  · rw [lookZ_cons] at e
    split at e
    · cases e
    · exact T.n y e
  · rw [lookZ_cons] at e
    split at e
    · rename_i hz
      subst hz
      cases e
      exact ⟨t, h⟩
    · exact T.i y j e
@[simp] def mInT (tz : TabZ) (a : ME) : ME := fun s st => (a s st).bind fun x st1 => match x with
  | .str z => match lookZ tz z with
    | some o => .ok (.bl o.isSome) st1
    | none => .stuck
  | _ => .stuck
@[simp] def mNotInT (tz : TabZ) (a : ME) : ME := fun s st => (a s st).bind fun x st1 => match x with
  | .str z => match lookZ tz z with
    | some o => .ok (.bl (!o.isSome)) st1
    | none => .stuck
  | _ => .stuck
@[simp] def mItemT (tz : TabZ) (a : ME) : ME := fun s st => (a s st).bind fun x st1 => match x with
  | .str z => match lookZ tz z with
    | some (some i) => .ok (.int i) st1
    | _ => .stuck
  | _ => .stuck
theorem KDt.look {K : PySem.W.Frag} {w : World} {d : Addr} {tz : TabZ} (T : KDt K w d tz) {z : Str} {o : Option Int} (h : lookZ tz z = some o) : ∃ r, PySem.W.nsIn K d z = some r ∧ r.isSome = o.isSome := by
  cases o with
  | none => exact ⟨none, T.n z h, rfl⟩
  | some i =>
    obtain ⟨t, e⟩ := T.i z i h
    exact ⟨_, e, rfl⟩
section
variable {X : Cx} {Cl : Nat → Addr} {E : XK} {pos p : Pos} {ma : ME} {a : Expr} {d : Addr} {x : Str} {tz : TabZ}
theorem se_inT {t : TE} (T : KDt X.K X.w d tz) (q1 : SE X.K Cl E t ma) : SE X.K Cl E (tOp (fun x y H Q => ∃ (z : Str) (r : Option Value), x = .str z ∧ y = .ref d ∧ PySem.W.nsIn X.K d z = some r ∧ Q (.bl r.isSome) H) t (tC (.ref d))) (mInT tz ma) :=
  fun β H σ s st Q hr hs h => q1 β H σ s st _ hr hs (h.bind fun y st1 β1 H1 v _ e1 hr1 ry h1 => by
    split at h1
    · split at h1
      · rename_i z o ho
        cases ry
        obtain ⟨r, e, er⟩ := T.look ho
        exact ⟨_, r, rfl, rfl, e, by rw [er]; exact PoG.val h1 hr1 (.bl _)⟩
      · exact h1.elim
    · exact h1.elim)
theorem se_notInT {t : TE} (T : KDt X.K X.w d tz) (q1 : SE X.K Cl E t ma) : SE X.K Cl E (tOp (fun x y H Q => ∃ (z : Str) (r : Option Value), x = .str z ∧ y = .ref d ∧ PySem.W.nsIn X.K d z = some r ∧ Q (.bl (!r.isSome)) H) t (tC (.ref d))) (mNotInT tz ma) :=
  fun β H σ s st Q hr hs h => q1 β H σ s st _ hr hs (h.bind fun y st1 β1 H1 v _ e1 hr1 ry h1 => by
    split at h1
    · split at h1
      · rename_i z o ho
        cases ry
        obtain ⟨r, e, er⟩ := T.look ho
        exact ⟨_, r, rfl, rfl, e, by rw [er]; exact PoG.val h1 hr1 (.bl _)⟩
      · exact h1.elim
    · exact h1.elim)
theorem je_inT (T : KDt X.K X.w d tz) (hm : X.mg x = some (.ref d)) (ha : JE X Cl E a ma) (hg : Gl X x := by rfl) (hd : (x == ("__debug__" : Str)) = false := by decide) (hb : behindInMarks .In (.Name x p) = false := by rfl) : JE X Cl E (.Compare a [.In] [.Name x p] pos) (mInT tz ma) := by
  obtain ⟨t, p1, q1⟩ := ha.ex
  obtain ⟨es, n, D⟩ := T.D
  exact ⟨_, pe_cmpR (op_in_kd D) p1 (pe_glob (v := .ref d) hg hm rfl hd) hb, se_inT T q1⟩
theorem je_notInT (T : KDt X.K X.w d tz) (hm : X.mg x = some (.ref d)) (ha : JE X Cl E a ma) (hg : Gl X x := by rfl) (hd : (x == ("__debug__" : Str)) = false := by decide) (hb : behindInMarks .NotIn (.Name x p) = false := by rfl) : JE X Cl E (.Compare a [.NotIn] [.Name x p] pos) (mNotInT tz ma) := by
  obtain ⟨t, p1, q1⟩ := ha.ex
  obtain ⟨es, n, D⟩ := T.D
  exact ⟨_, pe_cmpR (op_notIn_kd D) p1 (pe_glob (v := .ref d) hg hm rfl hd) hb, se_notInT T q1⟩
theorem jt_inT (T : KDt X.K X.w d tz) (hm : X.mg x = some (.ref d)) (ha : JE X Cl E a ma) (hg : Gl X x := by rfl) (hd : (x == ("__debug__" : Str)) = false := by decide) (hb : behindInMarks .In (.Name x p) = false := by rfl) : JT X Cl E (.Compare a [.In] [.Name x p] pos) (mTest (mInT tz ma)) := by
  obtain ⟨t, p1, q1⟩ := ha.ex
  obtain ⟨es, n, D⟩ := T.D
  exact ⟨_, pt_cmpR (op_in_kd D) p1 (pe_glob (v := .ref d) hg hm rfl hd) hb, st_test (se_inT T q1)⟩
theorem jt_notInT (T : KDt X.K X.w d tz) (hm : X.mg x = some (.ref d)) (ha : JE X Cl E a ma) (hg : Gl X x := by rfl) (hd : (x == ("__debug__" : Str)) = false := by decide) (hb : behindInMarks .NotIn (.Name x p) = false := by rfl) : JT X Cl E (.Compare a [.NotIn] [.Name x p] pos) (mTest (mNotInT tz ma)) := by
  obtain ⟨t, p1, q1⟩ := ha.ex
  obtain ⟨es, n, D⟩ := T.D
  exact ⟨_, pt_cmpR (op_notIn_kd D) p1 (pe_glob (v := .ref d) hg hm rfl hd) hb, st_test (se_notInT T q1)⟩
theorem je_itemT (T : KDt X.K X.w d tz) (hm : X.mg x = some (.ref d)) (ha : JE X Cl E a ma) (hg : Gl X x := by rfl) (hd : (x == ("__debug__" : Str)) = false := by decide) (hs : PlainIx a := by exact fun _ _ => rfl) : JE X Cl E (.Subscript (.Name x p) a pos) (mItemT tz ma) := by
  obtain ⟨t, p1, q1⟩ := ha.ex
  obtain ⟨es, n, D⟩ := T.D
  refine ⟨_, pe_ix ix_kdict (pe_glob (v := .ref d) hg hm rfl hd) p1 hs, fun β H σ s st Q hr hs h => q1 β H σ s st _ hr hs (h.bind fun y st1 β1 H1 v _ e1 hr1 ry h1 => ?_)⟩
  split at h1
  · split at h1
    · rename_i z he _ i ho
      cases ry
      obtain ⟨t, e⟩ := T.i _ _ ho
      exact ⟨d, z, .int i, rfl, rfl, ⟨es, n, _, D.at_, D.lit, e, ⟨t, rfl⟩⟩, PoG.val h1 hr1 (.int _)⟩
    · exact h1.elim
  · exact h1.elim
end
end Mi
/-! The mirror layer, part M: t * k of a tuple for k = 0 and k = 1, too. -/
namespace L2
open PySem PySem.Spec PyProof.Rows
theorem tuple_mul1 (l : Addr) (items : Array Value) (n : Nat) (dd : Option Addr) (sl : Array (Option Value)) (u : Tok) :
    Meets (Builtin.«tuple.__mul__» ⟨[.ref l, .int 1 u], []⟩) (fun _ R s => s.heap.get? l = some { cls := .type "tuple", dict := dd, data := .seq items n, slots := sl } ∧ R (.ok (.ret (Value.ref l))) s) :=
  .of_wp fun prog w A R s h => by
    obtain ⟨hp, g, d, tk, os⟩ := s
    obtain ⟨hl, h⟩ := h
    have f1 := AutoSeq1.idx_int
    have hT : (⟨hp, g, d, tk, os⟩ : Shared).TypeIs (.ref l) "tuple" := ⟨_, hl, rfl⟩
    have c1 : (items.isEmpty || ((1 : Int) == 1)) = true := by simp
    wp_walk using wpAny_loadPart' hl
    exact ⟨_, rfl, h⟩
theorem tuple_mul0 (l : Addr) (items : Array Value) (n : Nat) (dd : Option Addr) (sl : Array (Option Value)) (u : Tok) (hi : items.isEmpty = false) :
    Meets (Builtin.«tuple.__mul__» ⟨[.ref l, .int 0 u], []⟩) (fun _ R s => s.heap.get? l = some { cls := .type "tuple", dict := dd, data := .seq items n, slots := sl } ∧
      R (.ok (.ret (Value.ref s.heap.objs.size))) { s with heap := s.heap.push { cls := Value.type "tuple", data := Data.seq #[] }, toks := s.toks }) :=
  .of_wp fun prog w A R s h => by
    obtain ⟨hp, g, d, tk, os⟩ := s
    obtain ⟨hl, h⟩ := h
    have f1 := AutoSeq1.idx_int
    wp_walk using wpAny_loadPart' hl
    exact ⟨_, rfl, h⟩
def rRepS (K : PySem.W.Frag) : R2 := fun x y H Q => ∃ l xs, x = .ref l ∧ SqT K H l xs ∧ xs ≠ [] ∧ ((y = .int 1 ∧ Q (.ref l) H) ∨ (y = .int 0 ∧ ∀ p, H p = none → Q (.ref p) (upd H p (.tup []))))
theorem op_repS {X : Cx} : OpR X (binaryOp .Mult) (rRepS X.K) := by
  intro pins s σ H x y v u Q I rx ry h
  obtain ⟨l, xs, rfl, hT, hne, h⟩ := h
  cases rx
  obtain ⟨its, r, ⟨⟨cls, dd, data, sl⟩, ho, hc, n, hd⟩, hs⟩ := I.tuple hT
  simp only at hc hd
  subst hc hd
  have hi : its.toArray.isEmpty = false := by
    cases its with
    | nil => cases r; exact absurd rfl hne
    | cons a b => rfl
  rcases h with ⟨rfl, q⟩ | ⟨rfl, q⟩
  · obtain ⟨t, rfl⟩ := ry
    refine wpAny_binaryOp_repeat_ref (T := "tuple") (U := "int") (by decide) ⟨_, ho, rfl⟩ (fun s' => typeIs_int s' 1 t) noFill_tuple_mul F.fills_int_mul F.slot_int_rmul repeat_tuple F.slot_int_index.lookup
      (call_meets F.slot_int_rmul (typeIs_int s 1 t) F.entry_int_rmul (F.args_int_rmul_2 _ _) (int_rmul_tuple 1 t l its.toArray n dd sl)
        ⟨ho, rfl, ⟨_, ho, rfl⟩, call_meets F.slot_tuple_mul ⟨_, ho, rfl⟩ F.entry_tuple_mul (F.args_tuple_mul_2 _ _) (tuple_mul1 l its.toArray n dd sl t) ⟨ho, ?_⟩⟩)
    exact ⟨.ref l, H, I, rfl, q⟩
  · obtain ⟨t, rfl⟩ := ry
    refine wpAny_binaryOp_repeat_ref (T := "tuple") (U := "int") (by decide) ⟨_, ho, rfl⟩ (fun s' => typeIs_int s' 0 t) noFill_tuple_mul F.fills_int_mul F.slot_int_rmul repeat_tuple F.slot_int_index.lookup
      (call_meets F.slot_int_rmul (typeIs_int s 0 t) F.entry_int_rmul (F.args_int_rmul_2 _ _) (int_rmul_tuple 0 t l its.toArray n dd sl)
        ⟨ho, rfl, ⟨_, ho, rfl⟩, call_meets F.slot_tuple_mul ⟨_, ho, rfl⟩ F.entry_tuple_mul (F.args_tuple_mul_2 _ _) (tuple_mul0 l its.toArray n dd sl t hi) ⟨ho, ?_⟩⟩)
    refine ⟨.ref s.heap.objs.size, _, I.laid (t' := s.toks) (o := .tup []) (fun b ob q => Heap.get?_push_of_some _ q) (Nat.le_refl _) ?_, rfl, q _ (I.hok.fresh (Nat.le_refl _))⟩
    exact ⟨by simp, [], .nil, IsTup.new _ _⟩
end L2
namespace Mi
open PySem L2 PyProof.Rows
/-- t * k of a tuple that is not empty, k from 0 to 1000 -/
@[simp] def mMulR : M2 := fun x y st => match x, y with
  | .tup ws, .int k => if ws ≠ [] ∧ 0 ≤ k ∧ k ≤ 1000 ∧ ws.length ≤ 1000 then .ok (.tup (List.replicate k.toNat ws).flatten) st else .stuck
  | _, _ => .stuck
theorem o_mulR {X : Cx} {Cl : Nat → Addr} {E : XK} : OpR X (binaryOp .Mult) (fun x y H Q => rRepT X.K x y H Q ∨ rRepS X.K x y H Q) ∧ SOp X.K Cl E (fun x y H Q => rRepT X.K x y H Q ∨ rRepS X.K x y H Q) mMulR := by
  refine ⟨op_repT.or op_repS, fun β H st x y v u Q hr rx ry h => ?_⟩
  unfold mMulR at h
  split at h
  · rename_i ws k
    split at h
    · rename_i hz
      obtain ⟨h0, h1, h2, h3⟩ := hz
      cases ry
      cases rx with
      | @tup p ws vs h4 r4 =>
        have hn : vs ≠ [] := fun e => h0 (by subst e; cases r4; rfl)
        by_cases k2 : 2 ≤ k
        · exact .inl ⟨p, _, vs, rfl, rfl, h4, hn, k2, h2, by rw [← r4.length]; exact h3, fun l hl => Po.tup h hr hl (r4.rep _)⟩
        · have : k = 0 ∨ k = 1 := by omega
          rcases this with rfl | rfl
          · exact .inr ⟨p, vs, rfl, h4, hn, .inr ⟨rfl, fun l hl => Po.tup h hr hl .nil⟩⟩
          · refine .inr ⟨p, vs, rfl, h4, hn, .inl ⟨rfl, PoG.val h hr (.tup h4 ?_)⟩⟩
            simpa using r4
    · exact h.elim
  · exact h.elim
end Mi

namespace Gn
open PySem L2 Mi
/-! ### the text by places -/
def top (i : Nat) : Stmt := PySem.Challenge.pw_onestepcourt_k52_letters.main.body.getD i (.Pass ⟨0, 0, 0, 0⟩)
abbrev s_L_bag : Stmt := top 23
abbrev s_Digests_init : Stmt := inClass (top 9) 0
abbrev s_L_draw : Stmt := top 24
abbrev s_Digests_modulus : Stmt := inClass (top 9) 1
abbrev s_L_right : Stmt := top 26
abbrev s_L_spoilt : Stmt := top 25
abbrev s_is_integer : Stmt := top 7
abbrev s_is_word : Stmt := top 8
abbrev s_is_row : Stmt := top 17
abbrev s_is_number : Stmt := top 18
abbrev s_is_source : Stmt := top 20
abbrev s_Digests_is_digest : Stmt := inClass (top 9) 2
abbrev s_are_digests : Stmt := top 19
abbrev s_are_registers : Stmt := top 14
abbrev s_is_letter : Stmt := top 21
abbrev s_L_is_number : Stmt := top 27
abbrev s_L_numbers : Stmt := top 28
abbrev s_L_registers : Stmt := top 29
abbrev s_L_due : Stmt := top 30
abbrev s_law : Stmt := top 31
/-! ### constants, mirrors -/
def w_MOST_WORD : W := (W.int 65535)
def w_MOST_INPUTS : W := (W.int 16)
def w_PLACES : W := (W.int 256)
def w_MARKS : W := (W.tup [(W.str "long"), (W.str "done"), (W.str "divided"), (W.str "place"), (W.str "input"), (W.str "full"), (W.str "bad")])
def w_MOST_TOLD : W := (W.int 16)
def w_MOST_IMAGE : W := (W.int 239)
def w_MOST_LEVEL : W := (W.int 8)
def zt_SIZES : TabZ := [("ask", some 4), ("claim", some 8), ("halve", some 11), ("prove", some 7), ("answer", none), ("x", none)]
def b_L_bag : MS :=
  (mSeq (mAsg (mC (W.int 0)) (mGN 2))
  (mSeq (mIfS (mTest (mOp mLt (mVar 1) (mCB mLen (mCons (mVar 0) mNil)))) (mAsg (mCB mInt (mCons (mOp mIx (mVar 0) (mVar 1)) mNil)) (mGN 2)) mSkip)
  (mSeq (mIfS (mTest (mOp mGe (mVar 2) (mOp mPow (mC (W.int 10)) (mC (W.int 18))))) (mRet (mLstS (mCons (mVar 2) (mCons (mVar 2) (mCons (mVar 1) mNil))))) mSkip)
  (mRet (mLstS (mCons (mC (W.int 0)) (mCons (mVar 2) (mCons (mVar 1) mNil))))))))
def m_L_bag : MF := mDef 2 1 b_L_bag
def b_Digests_init : MS :=
  (mSeq (mSetF 0 "_bits" (mVar 0) (mVar 1))
  (mSeq (mSetF 0 "_modulus" (mVar 0) (mOp mSub (mOp mShl (mC (W.int 1)) (mVar 1)) (mC (W.int 1))))
  (mSetF 0 "_book" (mVar 0) (mVar 2))))
def m_Digests_init : MF := mDef 3 0 b_Digests_init
def b_L_draw : MS :=
  (mSeq (mIfS (mTest (mOp mLt (mVar 1) (mC (W.int 1)))) (mRet (mC (W.int 0))) mSkip)
  (mSeq (mIfS (mTest (mOp mEq (mOp mIx (mVar 0) (mC (W.int 0))) (mC (W.int 0)))) (mSeq (mAsg (mOp mMod (mCB mInt (mCons (mOp mAdd (mOp mAdd (mOp mMul (mOp mIx (mVar 0) (mC (W.int 1))) (mC (W.int 48271))) (mOp mMul (mOp mIx (mVar 0) (mC (W.int 2))) (mC (W.int 69621)))) (mC (W.int 11))) mNil)) (mC (W.int 2147483647))) (mGN 2))
  (mSeq (mAsg (mOp mAdd (mOp mMul (mVar 2) (mC (W.int 2147483629))) (mOp mMod (mCB mInt (mCons (mOp mAdd (mOp mMul (mVar 2) (mVar 2)) (mOp mMul (mOp mIx (mVar 0) (mC (W.int 2))) (mC (W.int 16807)))) mNil)) (mC (W.int 2147483629)))) (mGSub (mVar 0) (mC (W.int 0))))
  (mAsg (mVar 2) (mGSub (mVar 0) (mC (W.int 1)))))) mSkip)
  (mSeq (mAsg (mOp mIx (mVar 0) (mC (W.int 0))) (mGN 3))
  (mSeq (mAsg (mOp mFdiv (mVar 3) (mVar 1)) (mGSub (mVar 0) (mC (W.int 0))))
  (mRet (mOp mMod (mCB mInt (mCons (mVar 3) mNil)) (mVar 1)))))))
def m_L_draw : MF := mDef 2 2 b_L_draw
def b_Digests_modulus : MS :=
  (mRet (mFld 0 "_modulus" (mVar 0)))
def m_Digests_modulus : MF := mDef 1 0 b_Digests_modulus
def b_L_right : MS :=
  (mSeq (mAsg (mOp mSub (mMeth 0 "modulus" 1 m_Digests_modulus (mVar 1) mNil) (mC (W.int 1))) (mGN 2))
  (mSeq (mAsg (mOp mIx (mLst (mCons (mC (W.int 0)) (mCons (mC (W.int 1)) (mCons (mC (W.int 7)) (mCons (mOp mPow (mC (W.int 10)) (mC (W.int 9))) mNil))))) (mCall 2 m_L_draw (mCons (mVar 0) (mCons (mC (W.int 4)) mNil)))) (mGN 3))
  (mSeq (mAsg (mOp mIx (mLst (mCons (mC (W.int 0)) (mCons (mC (W.int 1)) (mCons (mVar 2) mNil)))) (mCall 2 m_L_draw (mCons (mVar 0) (mCons (mC (W.int 3)) mNil)))) (mGN 4))
  (mSeq (mAsg (mOp mMulR (mTup (mCons (mVar 4) mNil)) (mCall 2 m_L_draw (mCons (mVar 0) (mCons (mC (W.int 9)) mNil)))) (mGN 5))
  (mSeq (mAsg (mOp mMulR (mTup (mCons (mC (W.int 65535)) mNil)) (mOp mIx (mLst (mCons (mC (W.int 0)) (mCons (mC (W.int 1)) (mCons (mC (W.int 16)) mNil)))) (mCall 2 m_L_draw (mCons (mVar 0) (mCons (mC (W.int 3)) mNil))))) (mGN 6))
  (mSeq (mAsg (mCall 2 m_L_draw (mCons (mVar 0) (mCons (mC (W.int 5)) mNil))) (mGN 7))
  (mSeq (mIfS (mTest (mOp mEq (mVar 7) (mC (W.int 0)))) (mSeq (mAsg (mOp mIx (mLst (mCons (mVar 6) (mCons (mTup (mCons (mC (W.str "answer")) (mCons (mVar 3) mNil))) (mCons (mTup mNil) (mCons (mTup (mCons (mC (W.int 3)) (mCons (mC (W.int 4)) mNil))) mNil))))) (mCall 2 m_L_draw (mCons (mVar 0) (mCons (mC (W.int 4)) mNil)))) (mGN 8))
  (mRet (mTup (mCons (mC (W.str "ask")) (mCons (mOp mMulR (mTup (mCons (mC (W.int 1024)) mNil)) (mOp mIx (mLst (mCons (mC (W.int 0)) (mCons (mC (W.int 1)) (mCons (mC (W.int 239)) mNil)))) (mCall 2 m_L_draw (mCons (mVar 0) (mCons (mC (W.int 3)) mNil))))) (mCons (mVar 8) (mCons (mCall 2 m_L_draw (mCons (mVar 0) (mCons (mC (W.int 9)) mNil))) mNil))))))) mSkip)
  (mSeq (mIfS (mTest (mOp mEq (mVar 7) (mC (W.int 1)))) (mSeq (mAsg (mTup (mCons (mCall 2 m_L_draw (mCons (mVar 0) (mCons (mC (W.int 256)) mNil))) (mCons (mC (W.int 65535)) (mCons (mC (W.int 0)) (mCons (mCall 2 m_L_draw (mCons (mVar 0) (mCons (mC (W.int 7)) mNil))) (mCons (mVar 4) (mCons (mCall 2 m_L_draw (mCons (mVar 0) (mCons (mC (W.int 17)) mNil))) mNil))))))) (mGN 9))
  (mRet (mTup (mCons (mC (W.str "claim")) (mCons (mVar 3) (mCons (mVar 4) (mCons (mVar 2) (mCons (mVar 5) (mCons (mVar 9) (mCons (mC (W.int 0)) (mCons (mVar 6) mNil))))))))))) mSkip)
  (mSeq (mIfS (mTest (mOp mEq (mVar 7) (mC (W.int 2)))) (mRet (mTup (mCons (mC (W.str "halve")) (mCons (mVar 3) (mCons (mCall 2 m_L_draw (mCons (mVar 0) (mCons (mC (W.int 9)) mNil))) (mCons (mVar 3) (mCons (mC (W.int 5)) (mCons (mVar 4) (mCons (mVar 2) (mCons (mC (W.int 0)) (mCons (mVar 4) (mCons (mC (W.int 1)) (mCons (mVar 5) mNil))))))))))))) mSkip)
  (mRet (mTup (mCons (mC (W.str "prove")) (mCons (mVar 3) (mCons (mVar 3) (mCons (mVar 2) (mCons (mVar 4) (mCons (mVar 2) (mCons (mOp mIx (mLst (mCons (mC W.non) (mCons (mTup mNil) (mCons (mC (W.str "x")) (mCons (mTup (mCons (mTup (mCons (mC (W.int 0)) (mCons (mC (W.int 0)) (mCons (mC (W.int 0)) (mCons (mC (W.int 0)) (mCons (mC (W.int 7)) (mCons (mC (W.int 0)) mNil))))))) (mCons (mC (W.int 0)) (mCons (mTup mNil) mNil)))) mNil))))) (mCall 2 m_L_draw (mCons (mVar 0) (mCons (mC (W.int 4)) mNil)))) mNil))))))))))))))))))
def m_L_right : MF := mDef 2 8 b_L_right
def b_L_spoilt (rec : MF) : MS :=
  (mSeq (mIfS (mTOr (mTNot (mTru (mIsi "tuple" (mVar 1)))) (mTOr (mTest (mOp mEq (mCB mLen (mCons (mVar 1) mNil)) (mC (W.int 0)))) (mTest (mOp mEq (mCall 2 m_L_draw (mCons (mVar 0) (mCons (mC (W.int 5)) mNil))) (mC (W.int 0)))))) (mRet (mVar 2)) mSkip)
  (mSeq (mAsg (mCall 2 m_L_draw (mCons (mVar 0) (mCons (mCB mLen (mCons (mVar 1) mNil)) mNil))) (mGN 3))
  (mSeq (mAsg (mCall 2 m_L_draw (mCons (mVar 0) (mCons (mC (W.int 8)) mNil))) (mGN 4))
  (mSeq (mIfS (mTest (mOp mEq (mVar 4) (mC (W.int 0)))) (mRet (mOp mAdd (mSl (mVar 1) mNoPart (mPart (mVar 3))) (mSl (mVar 1) (mPart (mOp mAdd (mVar 3) (mC (W.int 1)))) mNoPart))) mSkip)
  (mSeq (mIfS (mTest (mOp mEq (mVar 4) (mC (W.int 1)))) (mRet (mOp mAdd (mOp mAdd (mSl (mVar 1) mNoPart (mPart (mVar 3))) (mTup (mCons (mVar 2) mNil))) (mSl (mVar 1) (mPart (mVar 3)) mNoPart))) mSkip)
  (mSeq (mIfS (mTest (mOp mEq (mVar 4) (mC (W.int 2)))) (mRet (mOp mAdd (mOp mAdd (mSl (mVar 1) mNoPart (mPart (mVar 3))) (mSl (mVar 1) (mPart (mVar 3)) (mPart (mOp mAdd (mVar 3) (mC (W.int 1)))))) (mSl (mVar 1) (mPart (mVar 3)) mNoPart))) mSkip)
  (mSeq (mIfS (mTest (mOp mEq (mVar 4) (mC (W.int 3)))) (mRet (mOp mAdd (mOp mAdd (mOp mAdd (mSl (mVar 1) mNoPart (mPart (mVar 3))) (mSl (mVar 1) (mPart (mOp mAdd (mVar 3) (mC (W.int 1)))) (mPart (mOp mAdd (mVar 3) (mC (W.int 2)))))) (mSl (mVar 1) (mPart (mVar 3)) (mPart (mOp mAdd (mVar 3) (mC (W.int 1)))))) (mSl (mVar 1) (mPart (mOp mAdd (mVar 3) (mC (W.int 2)))) mNoPart))) mSkip)
  (mRet (mOp mAdd (mOp mAdd (mSl (mVar 1) mNoPart (mPart (mVar 3))) (mTup (mCons (mCall 3 rec (mCons (mVar 0) (mCons (mOp mIx (mVar 1) (mVar 3)) (mCons (mVar 2) mNil)))) mNil))) (mSl (mVar 1) (mPart (mOp mAdd (mVar 3) (mC (W.int 1)))) mNoPart))))))))))
def m_L_spoilt : Nat → MF
  | 0 => mDef 3 2 mDead
  | d + 1 => mDef 3 2 (b_L_spoilt (m_L_spoilt d))
theorem nox_L_spoilt : ∀ d, NoX (m_L_spoilt d)
  | 0 => nox_def
  | _ + 1 => nox_def
def b_is_integer : MS :=
  (mRet (mAndV (mIsi "int" (mVar 0)) (mAndV (mNotV (mIsi "bool" (mVar 0))) (mChain mLe mLe (mVar 1) (mVar 0) (mVar 2)))))
def m_is_integer : MF := mDef 3 0 b_is_integer
def b_is_word : MS :=
  (mRet (mCall 3 m_is_integer (mCons (mVar 0) (mCons (mC (W.int 0)) (mCons (mC w_MOST_WORD) mNil)))))
def m_is_word : MF := mDef 1 0 b_is_word
def e0_is_row : ME :=
  (mCall 1 m_is_word (mCons (mVar 2) mNil))
def b_is_row : MS :=
  (mRet (mAndV (mIsi "tuple" (mVar 0)) (mAndV (mOp mLe (mCB mLen (mCons (mVar 0) mNil)) (mVar 1)) (mCB mAll (mCons (mLc (mITup (mVar 0)) (.nm 2) mYes e0_is_row [2]) mNil)))))
def m_is_row : MF := mDef 2 1 b_is_row
def b_is_number : MS :=
  (mRet (mAndV (mIsi "int" (mVar 0)) (mAndV (mNotV (mIsi "bool" (mVar 0))) (mOp mGe (mVar 0) (mC (W.int 0))))))
def m_is_number : MF := mDef 1 0 b_is_number
def b_is_source : MS :=
  (mSeq (mIfS (mTAnd (mTru (mIsi "tuple" (mVar 0))) (mTAnd (mTest (mOp mEq (mCB mLen (mCons (mVar 0) mNil)) (mC (W.int 2)))) (mTru (mIsi "str" (mOp mIx (mVar 0) (mC (W.int 0))))))) (mRet (mAndV (mOp mEq (mOp mIx (mVar 0) (mC (W.int 0))) (mC (W.str "answer"))) (mCall 1 m_is_number (mCons (mOp mIx (mVar 0) (mC (W.int 1))) mNil)))) mSkip)
  (mRet (mCall 2 m_is_row (mCons (mVar 0) (mCons (mC w_MOST_INPUTS) mNil)))))
def m_is_source : MF := mDef 1 0 b_is_source
def b_Digests_is_digest : MS :=
  (mRet (mCall 3 m_is_integer (mCons (mVar 1) (mCons (mC (W.int 0)) (mCons (mOp mSub (mFld 0 "_modulus" (mVar 0)) (mC (W.int 1))) mNil)))))
def m_Digests_is_digest : MF := mDef 2 0 b_Digests_is_digest
def e0_are_digests : ME :=
  (mMeth 0 "is_digest" 2 m_Digests_is_digest (mVar 0) (mCons (mVar 2) mNil))
def b_are_digests : MS :=
  (mRet (mAndV (mIsi "tuple" (mVar 1)) (mCB mAll (mCons (mLc (mITup (mVar 1)) (.nm 2) mYes e0_are_digests [2]) mNil))))
def m_are_digests : MF := mDef 2 1 b_are_digests
def b_are_registers : MS :=
  (mSeq (mIfS (mTOr (mTNot (mTru (mIsi "tuple" (mVar 1)))) (mTest (mOp mNe (mCB mLen (mCons (mVar 1) mNil)) (mC (W.int 6))))) (mRet (mC (W.bl false))) mSkip)
  (mSeq (mAsg (mVar 1) (mGTup 6 (mGCons (mGN 2) (mGCons (mGN 3) (mGCons (mGN 4) (mGCons (mGN 5) (mGCons (mGN 6) (mGCons (mGN 7) mGNil))))))))
  (mSeq (mIfS (mTOr (mTNot (mTru (mCall 3 m_is_integer (mCons (mVar 2) (mCons (mC (W.int 0)) (mCons (mOp mSub (mC w_PLACES) (mC (W.int 1))) mNil)))))) (mTOr (mTNot (mTru (mCall 1 m_is_word (mCons (mVar 3) mNil)))) (mTNot (mTru (mCall 1 m_is_word (mCons (mVar 4) mNil)))))) (mRet (mC (W.bl false))) mSkip)
  (mRet (mAndV (mCall 3 m_is_integer (mCons (mVar 5) (mCons (mC (W.int 0)) (mCons (mOp mSub (mCB mLen (mCons (mC w_MARKS) mNil)) (mC (W.int 1))) mNil)))) (mAndV (mMeth 0 "is_digest" 2 m_Digests_is_digest (mVar 0) (mCons (mVar 6) mNil)) (mCall 3 m_is_integer (mCons (mVar 7) (mCons (mC (W.int 0)) (mCons (mC w_MOST_TOLD) mNil))))))))))
def m_are_registers : MF := mDef 2 6 b_are_registers
def b_is_letter : MS :=
  (mSeq (mIfS (mTOr (mTNot (mTru (mIsi "tuple" (mVar 1)))) (mTOr (mTest (mOp mEq (mCB mLen (mCons (mVar 1) mNil)) (mC (W.int 0)))) (mTOr (mTNot (mTru (mIsi "str" (mOp mIx (mVar 1) (mC (W.int 0)))))) (mTest (mNotInT zt_SIZES (mOp mIx (mVar 1) (mC (W.int 0)))))))) (mRet (mC (W.bl false))) mSkip)
  (mSeq (mIfS (mTest (mOp mNe (mCB mLen (mCons (mVar 1) mNil)) (mItemT zt_SIZES (mOp mIx (mVar 1) (mC (W.int 0)))))) (mRet (mC (W.bl false))) mSkip)
  (mSeq (mIfS (mTest (mOp mEq (mOp mIx (mVar 1) (mC (W.int 0))) (mC (W.str "ask")))) (mRet (mAndV (mCall 2 m_is_row (mCons (mOp mIx (mVar 1) (mC (W.int 1))) (mCons (mC w_MOST_IMAGE) mNil))) (mAndV (mCall 1 m_is_source (mCons (mOp mIx (mVar 1) (mC (W.int 2))) mNil)) (mCall 3 m_is_integer (mCons (mOp mIx (mVar 1) (mC (W.int 3))) (mCons (mC (W.int 0)) (mCons (mC w_MOST_LEVEL) mNil))))))) mSkip)
  (mSeq (mIfS (mTNot (mTru (mCall 1 m_is_number (mCons (mOp mIx (mVar 1) (mC (W.int 1))) mNil)))) (mRet (mC (W.bl false))) mSkip)
  (mSeq (mIfS (mTest (mOp mEq (mOp mIx (mVar 1) (mC (W.int 0))) (mC (W.str "claim")))) (mSeq (mAsg (mVar 1) (mGTup 8 (mGCons (mGN 2) (mGCons (mGN 2) (mGCons (mGN 3) (mGCons (mGN 4) (mGCons (mGN 5) (mGCons (mGN 6) (mGCons (mGN 7) (mGCons (mGN 8) mGNil))))))))))
  (mSeq (mIfS (mTOr (mTNot (mTru (mCall 2 m_are_digests (mCons (mVar 0) (mCons (mTup (mCons (mVar 3) (mCons (mVar 4) (mCons (mVar 7) mNil)))) mNil))))) (mTNot (mTru (mCall 2 m_are_digests (mCons (mVar 0) (mCons (mVar 5) mNil)))))) (mRet (mC (W.bl false))) mSkip)
  (mRet (mAndV (mCall 2 m_are_registers (mCons (mVar 0) (mCons (mVar 6) mNil))) (mCall 2 m_is_row (mCons (mVar 8) (mCons (mC w_MOST_TOLD) mNil))))))) mSkip)
  (mSeq (mIfS (mTest (mOp mEq (mOp mIx (mVar 1) (mC (W.int 0))) (mC (W.str "halve")))) (mSeq (mIfS (mTOr (mTNot (mTru (mCall 1 m_is_number (mCons (mOp mIx (mVar 1) (mC (W.int 2))) mNil)))) (mTNot (mTru (mCall 1 m_is_number (mCons (mOp mIx (mVar 1) (mC (W.int 3))) mNil))))) (mRet (mC (W.bl false))) mSkip)
  (mRet (mAndV (mCall 2 m_are_digests (mCons (mVar 0) (mCons (mSl (mVar 1) (mPart (mC (W.int 4))) (mPart (mC (W.int 10)))) mNil))) (mCall 2 m_are_digests (mCons (mVar 0) (mCons (mOp mIx (mVar 1) (mC (W.int 10))) mNil)))))) mSkip)
  (mRet (mAndV (mCall 1 m_is_number (mCons (mOp mIx (mVar 1) (mC (W.int 2))) mNil)) (mCall 2 m_are_digests (mCons (mVar 0) (mCons (mSl (mVar 1) (mPart (mC (W.int 3))) (mPart (mC (W.int 6)))) mNil)))))))))))
def m_is_letter : MF := mDef 2 7 b_is_letter
def b_L_is_number : MS :=
  (mRet (mAndV (mIsi "int" (mVar 0)) (mAndV (mNotV (mIsi "bool" (mVar 0))) (mAndV (mOp mGe (mVar 0) (mC (W.int 0))) (mOrV (mOp mIsN (mVar 1) (mC W.non)) (mOp mLe (mVar 0) (mVar 1)))))))
def m_L_is_number : MF := mDef 2 0 b_L_is_number
def t0_L_numbers : MT :=
  (mTNot (mTru (mCall 2 m_L_is_number (mCons (mVar 3) (mCons (mVar 1) mNil)))))
def e1_L_numbers : ME :=
  (mVar 3)
def b_L_numbers : MS :=
  (mSeq (mIfS (mTOr (mTNot (mTru (mIsi "tuple" (mVar 0)))) (mTAnd (mTest (mOp mNotN (mVar 2) (mC W.non))) (mTest (mOp mGt (mCB mLen (mCons (mVar 0) mNil)) (mVar 2))))) (mRet (mC (W.bl false))) mSkip)
  (mRet (mOp mEq (mCB mLen (mCons (mLc (mITup (mVar 0)) (.nm 3) t0_L_numbers e1_L_numbers [3]) mNil)) (mC (W.int 0)))))
def m_L_numbers : MF := mDef 3 1 b_L_numbers
def t0_L_registers : MT :=
  (mTNot (mTru (mCall 2 m_L_is_number (mCons (mOp mIx (mVar 0) (mVar 3)) (mCons (mOp mIx (mVar 2) (mVar 3)) mNil)))))
def e1_L_registers : ME :=
  (mVar 3)
def b_L_registers : MS :=
  (mSeq (mIfS (mTOr (mTNot (mTru (mIsi "tuple" (mVar 0)))) (mTest (mOp mNe (mCB mLen (mCons (mVar 0) mNil)) (mC (W.int 6))))) (mRet (mC (W.bl false))) mSkip)
  (mSeq (mAsg (mLst (mCons (mC (W.int 255)) (mCons (mC (W.int 65535)) (mCons (mC (W.int 65535)) (mCons (mC (W.int 6)) (mCons (mVar 1) (mCons (mC (W.int 16)) mNil))))))) (mGN 2))
  (mRet (mOp mEq (mCB mLen (mCons (mLc (mIRng1 (mCons (mC (W.int 6)) mNil)) (.nm 3) t0_L_registers e1_L_registers [3]) mNil)) (mC (W.int 0))))))
def m_L_registers : MF := mDef 2 2 b_L_registers
def b_L_due : MS :=
  (mSeq (mAsg (mDisp [((mC (W.str "ask")), (mC (W.int 4))), ((mC (W.str "claim")), (mC (W.int 8))), ((mC (W.str "halve")), (mC (W.int 11))), ((mC (W.str "prove")), (mC (W.int 7)))]) (mGN 2))
  (mSeq (mIfS (mTOr (mTNot (mTru (mIsi "tuple" (mVar 0)))) (mTOr (mTest (mOp mEq (mCB mLen (mCons (mVar 0) mNil)) (mC (W.int 0)))) (mTOr (mTNot (mTru (mIsi "str" (mOp mIx (mVar 0) (mC (W.int 0)))))) (mTest (mOp mNe (mDGet2 (mVar 2) (mOp mIx (mVar 0) (mC (W.int 0))) (mC (W.int 0))) (mCB mLen (mCons (mVar 0) mNil))))))) (mRet (mC (W.bl false))) mSkip)
  (mSeq (mIfS (mTest (mOp mEq (mOp mIx (mVar 0) (mC (W.int 0))) (mC (W.str "ask")))) (mSeq (mAsg (mOp mIx (mVar 0) (mC (W.int 2))) (mGN 3))
  (mSeq (mAsg (mAndV (mIsi "tuple" (mVar 3)) (mAndV (mOp mEq (mCB mLen (mCons (mVar 3) mNil)) (mC (W.int 2))) (mIsi "str" (mOp mIx (mVar 3) (mC (W.int 0)))))) (mGN 4))
  (mSeq (mIfS (mTAnd (mTru (mVar 4)) (mTOr (mTest (mOp mNe (mOp mIx (mVar 3) (mC (W.int 0))) (mC (W.str "answer")))) (mTNot (mTru (mCall 2 m_L_is_number (mCons (mOp mIx (mVar 3) (mC (W.int 1))) (mCons (mC W.non) mNil))))))) (mRet (mC (W.bl false))) mSkip)
  (mRet (mAndV (mCall 3 m_L_numbers (mCons (mOp mIx (mVar 0) (mC (W.int 1))) (mCons (mC (W.int 65535)) (mCons (mC (W.int 239)) mNil)))) (mAndV (mOrV (mVar 4) (mCall 3 m_L_numbers (mCons (mVar 3) (mCons (mC (W.int 65535)) (mCons (mC (W.int 16)) mNil))))) (mCall 2 m_L_is_number (mCons (mOp mIx (mVar 0) (mC (W.int 3))) (mCons (mC (W.int 8)) mNil))))))))) mSkip)
  (mSeq (mIfS (mTNot (mTru (mCall 2 m_L_is_number (mCons (mOp mIx (mVar 0) (mC (W.int 1))) (mCons (mC W.non) mNil))))) (mRet (mC (W.bl false))) mSkip)
  (mSeq (mIfS (mTest (mOp mEq (mOp mIx (mVar 0) (mC (W.int 0))) (mC (W.str "claim")))) (mSeq (mIfS (mTOr (mTNot (mTru (mCall 3 m_L_numbers (mCons (mTup (mCons (mOp mIx (mVar 0) (mC (W.int 2))) (mCons (mOp mIx (mVar 0) (mC (W.int 3))) (mCons (mOp mIx (mVar 0) (mC (W.int 6))) mNil)))) (mCons (mVar 1) (mCons (mC W.non) mNil)))))) (mTNot (mTru (mCall 3 m_L_numbers (mCons (mOp mIx (mVar 0) (mC (W.int 4))) (mCons (mVar 1) (mCons (mC W.non) mNil))))))) (mRet (mC (W.bl false))) mSkip)
  (mRet (mAndV (mCall 2 m_L_registers (mCons (mOp mIx (mVar 0) (mC (W.int 5))) (mCons (mVar 1) mNil))) (mCall 3 m_L_numbers (mCons (mOp mIx (mVar 0) (mC (W.int 7))) (mCons (mC (W.int 65535)) (mCons (mC (W.int 16)) mNil))))))) mSkip)
  (mSeq (mIfS (mTest (mOp mEq (mOp mIx (mVar 0) (mC (W.int 0))) (mC (W.str "halve")))) (mRet (mAndV (mCall 3 m_L_numbers (mCons (mSl (mVar 0) (mPart (mC (W.int 2))) (mPart (mC (W.int 4)))) (mCons (mC W.non) (mCons (mC W.non) mNil)))) (mAndV (mCall 3 m_L_numbers (mCons (mSl (mVar 0) (mPart (mC (W.int 4))) (mPart (mC (W.int 10)))) (mCons (mVar 1) (mCons (mC W.non) mNil)))) (mCall 3 m_L_numbers (mCons (mOp mIx (mVar 0) (mC (W.int 10))) (mCons (mVar 1) (mCons (mC W.non) mNil))))))) mSkip)
  (mRet (mAndV (mCall 2 m_L_is_number (mCons (mOp mIx (mVar 0) (mC (W.int 2))) (mCons (mC W.non) mNil))) (mCall 3 m_L_numbers (mCons (mSl (mVar 0) (mPart (mC (W.int 3))) (mPart (mC (W.int 6)))) (mCons (mVar 1) (mCons (mC W.non) mNil))))))))))))
def m_L_due : MF := mDef 2 3 b_L_due
def l0_law : MS :=
  (mSeq (mAsg (mLst (mCons (mC W.non) (mCons (mC (W.bl true)) (mCons (mC (W.bl false)) (mCons (mUn mNeg (mC (W.int 1))) (mCons (mC (W.int 0)) (mCons (mC (W.int 1)) (mCons (mC (W.int 9)) (mCons (mC (W.int 17)) (mCons (mC (W.int 126)) (mCons (mC (W.int 127)) (mCons (mC (W.int 65535)) (mCons (mC (W.int 65536)) (mCons (mOp mSub (mOp mPow (mC (W.int 2)) (mC (W.int 61))) (mC (W.int 1))) (mCons (mC (W.str "ask")) (mCons (mC (W.str "claim")) (mCons (mC (W.str "halve")) (mCons (mC (W.str "prove")) (mCons (mC (W.str "answer")) mNil))))))))))))))))))) (mGN 7))
  (mSeq (mAsg (mOp mAdd (mVar 7) (mLst (mCons (mTup mNil) (mCons (mTup (mCons (mC (W.int 0)) mNil)) (mCons (mTup (mCons (mC (W.int 65536)) mNil)) (mCons (mLst (mCons (mC (W.int 0)) mNil)) (mCons (mTup (mCons (mC (W.str "answer")) (mCons (mC (W.int 0)) mNil))) (mCons (mOp mMulR (mTup (mCons (mC (W.int 0)) mNil)) (mC (W.int 17))) mNil)))))))) (mGN 7))
  (mAsg (mCall 3 (m_L_spoilt 8) (mCons (mVar 2) (mCons (mVar 4) (mCons (mOp mIx (mVar 7) (mCall 2 m_L_draw (mCons (mVar 2) (mCons (mC (W.int 24)) mNil)))) mNil)))) (mGN 4))))
def l1_law : MS :=
  (mSeq (mAsg (mCall 2 m_L_bag (mCons (mVar 0) (mCons (mVar 1) mNil))) (mGN 2))
  (mSeq (mAsg (mMake 0 3 m_Digests_init (mCons (mOp mIx (mLst (mCons (mC (W.int 7)) (mCons (mC (W.int 13)) (mCons (mC (W.int 31)) (mCons (mC (W.int 61)) mNil))))) (mCall 2 m_L_draw (mCons (mVar 2) (mCons (mC (W.int 4)) mNil)))) (mCons (mC W.non) mNil))) (mGN 3))
  (mSeq (mAsg (mCall 2 m_L_right (mCons (mVar 2) (mCons (mVar 3) mNil))) (mGN 4))
  (mSeq (mFor (mIRng1 (mCons (mCall 2 m_L_draw (mCons (mVar 2) (mCons (mC (W.int 3)) mNil))) mNil)) (mGN 5) l0_law)
  (mSeq (mAsg (mCall 2 m_is_letter (mCons (mVar 3) (mCons (mVar 4) mNil))) (mGN 6))
  (mIfS (mTOr (mTNot (mTru (mIsi "bool" (mVar 6)))) (mTest (mOp mNe (mVar 6) (mCall 2 m_L_due (mCons (mVar 4) (mCons (mOp mSub (mMeth 0 "modulus" 1 m_Digests_modulus (mVar 3) mNil) (mC (W.int 1))) mNil)))))) (mRet (mC (W.bl false))) mSkip))))))
def b_law : MS :=
  (mSeq (mFor (mIRng1 (mCons (mCB mMax2 (mCons (mC (W.int 1)) (mCons (mCB mMin2 (mCons (mC (W.int 20)) (mCons (mCB mLen (mCons (mVar 0) mNil)) mNil))) mNil))) mNil)) (mGN 1) l1_law)
  (mRet (mC (W.bl true))))
def m_law : MF := mDef 1 7 b_law
/-! ### what the top has made -/
structure Tx (w : World) (K : PySem.W.Frag) (mg : Str → Option Value) (Cl : Nat → Addr) where
  a_L_bag : Addr
  d_L_bag : FuncData
  F_L_bag : Fun K "_law_bag" "_law_bag" s_L_bag a_L_bag d_L_bag
  g_L_bag : mg "_law_bag" = some (.ref a_L_bag)
  a_Digests_init : Addr
  d_Digests_init : FuncData
  F_Digests_init : Fun K "__init__" "Digests.__init__" s_Digests_init a_Digests_init d_Digests_init
  M_Digests : Mk K (Cl 0) a_Digests_init
  a_L_draw : Addr
  d_L_draw : FuncData
  F_L_draw : Fun K "_law_draw" "_law_draw" s_L_draw a_L_draw d_L_draw
  g_L_draw : mg "_law_draw" = some (.ref a_L_draw)
  a_Digests_modulus : Addr
  d_Digests_modulus : FuncData
  F_Digests_modulus : Fun K "modulus" "Digests.modulus" s_Digests_modulus a_Digests_modulus d_Digests_modulus
  m_Digests_modulus : Meth K (Cl 0) "modulus" a_Digests_modulus
  a_L_right : Addr
  d_L_right : FuncData
  F_L_right : Fun K "_law_right" "_law_right" s_L_right a_L_right d_L_right
  g_L_right : mg "_law_right" = some (.ref a_L_right)
  a_L_spoilt : Addr
  d_L_spoilt : FuncData
  F_L_spoilt : Fun K "_law_spoilt" "_law_spoilt" s_L_spoilt a_L_spoilt d_L_spoilt
  g_L_spoilt : mg "_law_spoilt" = some (.ref a_L_spoilt)
  a_is_integer : Addr
  d_is_integer : FuncData
  F_is_integer : Fun K "is_integer" "is_integer" s_is_integer a_is_integer d_is_integer
  g_is_integer : mg "is_integer" = some (.ref a_is_integer)
  a_is_word : Addr
  d_is_word : FuncData
  F_is_word : Fun K "is_word" "is_word" s_is_word a_is_word d_is_word
  g_is_word : mg "is_word" = some (.ref a_is_word)
  a_is_row : Addr
  d_is_row : FuncData
  F_is_row : Fun K "is_row" "is_row" s_is_row a_is_row d_is_row
  g_is_row : mg "is_row" = some (.ref a_is_row)
  a_is_number : Addr
  d_is_number : FuncData
  F_is_number : Fun K "is_number" "is_number" s_is_number a_is_number d_is_number
  g_is_number : mg "is_number" = some (.ref a_is_number)
  a_is_source : Addr
  d_is_source : FuncData
  F_is_source : Fun K "is_source" "is_source" s_is_source a_is_source d_is_source
  g_is_source : mg "is_source" = some (.ref a_is_source)
  a_Digests_is_digest : Addr
  d_Digests_is_digest : FuncData
  F_Digests_is_digest : Fun K "is_digest" "Digests.is_digest" s_Digests_is_digest a_Digests_is_digest d_Digests_is_digest
  m_Digests_is_digest : Meth K (Cl 0) "is_digest" a_Digests_is_digest
  a_are_digests : Addr
  d_are_digests : FuncData
  F_are_digests : Fun K "are_digests" "are_digests" s_are_digests a_are_digests d_are_digests
  g_are_digests : mg "are_digests" = some (.ref a_are_digests)
  a_are_registers : Addr
  d_are_registers : FuncData
  F_are_registers : Fun K "are_registers" "are_registers" s_are_registers a_are_registers d_are_registers
  g_are_registers : mg "are_registers" = some (.ref a_are_registers)
  a_is_letter : Addr
  d_is_letter : FuncData
  F_is_letter : Fun K "is_letter" "is_letter" s_is_letter a_is_letter d_is_letter
  g_is_letter : mg "is_letter" = some (.ref a_is_letter)
  a_L_is_number : Addr
  d_L_is_number : FuncData
  F_L_is_number : Fun K "_law_is_number" "_law_is_number" s_L_is_number a_L_is_number d_L_is_number
  g_L_is_number : mg "_law_is_number" = some (.ref a_L_is_number)
  a_L_numbers : Addr
  d_L_numbers : FuncData
  F_L_numbers : Fun K "_law_numbers" "_law_numbers" s_L_numbers a_L_numbers d_L_numbers
  g_L_numbers : mg "_law_numbers" = some (.ref a_L_numbers)
  a_L_registers : Addr
  d_L_registers : FuncData
  F_L_registers : Fun K "_law_registers" "_law_registers" s_L_registers a_L_registers d_L_registers
  g_L_registers : mg "_law_registers" = some (.ref a_L_registers)
  a_L_due : Addr
  d_L_due : FuncData
  F_L_due : Fun K "_law_due" "_law_due" s_L_due a_L_due d_L_due
  g_L_due : mg "_law_due" = some (.ref a_L_due)
  a_law : Addr
  d_law : FuncData
  F_law : Fun K "law" "law" s_law a_law d_law
  g_law : mg "law" = some (.ref a_law)
  k_Digests : Cls K (Cl 0)
  g_Digests : mg "Digests" = some (.ref (Cl 0))
  n_Digests__bits : NoAttr K (Cl 0) "_bits"
  n_Digests__modulus : NoAttr K (Cl 0) "_modulus"
  n_Digests__book : NoAttr K (Cl 0) "_book"
  c_MOST_WORD : GC K mg "MOST_WORD" w_MOST_WORD
  c_MOST_INPUTS : GC K mg "MOST_INPUTS" w_MOST_INPUTS
  c_PLACES : GC K mg "PLACES" w_PLACES
  c_MARKS : GC K mg "MARKS" w_MARKS
  c_MOST_TOLD : GC K mg "MOST_TOLD" w_MOST_TOLD
  c_MOST_IMAGE : GC K mg "MOST_IMAGE" w_MOST_IMAGE
  c_MOST_LEVEL : GC K mg "MOST_LEVEL" w_MOST_LEVEL
  aD_SIZES : Addr
  D_SIZES : KDt K w aD_SIZES zt_SIZES
  gD_SIZES : mg "SIZES" = some (.ref aD_SIZES)
  b_all : mg "all" = none
  b_bool : mg "bool" = none
  b_int : mg "int" = none
  b_isinstance : mg "isinstance" = none
  b_len : mg "len" = none
  b_max : mg "max" = none
  b_min : mg "min" = none
  b_range : mg "range" = none
  b_str : mg "str" = none
  b_tuple : mg "tuple" = none
section
variable {P : Program} {w : World} {K : PySem.W.Frag} {Cl : Nat → Addr} {mg : Str → Option Value} {base : Heap}
theorem sc_L_bag : FnScope ["_law_script", "_law_k", "_law_cell"] ["_law_script", "_law_k"] (defScope s_L_bag) := ⟨rfl, rfl, rfl, by decide +kernel, rfl, by decide +kernel, by decide +kernel⟩
theorem bi_L_bag (T : Tx w K mg Cl) : Binds K T.d_L_bag ["_law_script", "_law_k"] [] := T.F_L_bag.binds fun _ _ _ _ _ _ us hl => match us, hl with | [_, _], _ => rfl
theorem ok_L_bag (T : Tx w K mg Cl) : FnOk P w K mg base CX0 1 T.a_L_bag T.d_L_bag ["_law_script", "_law_k"] (spM K Cl 2 m_L_bag) := by
  refine fn_ok T.F_L_bag sc_L_bag rfl rfl fun cdv A outer s H E hr => ?_
  have hN := (sc_L_bag).nd
  exact (jss_cons (js_set 2 hN je_int)
    (jss_cons (js_if (jt_cmp o_lt (je_var 1) (je_callB c_len T.b_len PySem.boot_len (ja_cons (je_var 0) ja_nil)) (nomark _)) (jss_one (js_set 2 hN (je_callTy c_int T.b_int PyProof.Rows.boot_int (ja_cons (je_ix (je_var 0) (je_var 1)) ja_nil)))) jss_nil)
    (jss_cons (js_if (jt_cmp o_ge (je_var 2) (je_op o_pow je_int je_int) (nomark _)) (jss_one (js_ret (je_lstS (ja_cons (je_var 2) (ja_cons (je_var 2) (ja_cons (je_var 1) ja_nil)))))) jss_nil)
    (jss_one (js_ret (je_lstS (ja_cons je_int (ja_cons (je_var 2) (ja_cons (je_var 1) ja_nil)))))))))
theorem sc_Digests_init : FnScope ["self", "bits", "book"] ["self", "bits", "book"] (defScope s_Digests_init) := ⟨rfl, rfl, rfl, by decide +kernel, rfl, by decide +kernel, by decide +kernel⟩
theorem bi_Digests_init (T : Tx w K mg Cl) : Binds K T.d_Digests_init ["self", "bits", "book"] [] := T.F_Digests_init.binds fun _ _ _ _ _ _ us hl => match us, hl with | [_, _, _], _ => rfl
theorem ok_Digests_init (T : Tx w K mg Cl) : FnOk P w K mg base CX0 1 T.a_Digests_init T.d_Digests_init ["self", "bits", "book"] (spM K Cl 3 m_Digests_init) := by
  refine fn_ok T.F_Digests_init sc_Digests_init rfl rfl fun cdv A outer s H E hr => ?_
  have hN := (sc_Digests_init).nd
  exact (jss_cons (js_fld T.k_Digests T.n_Digests__bits (je_var 0) (je_var 1))
    (jss_cons (js_fld T.k_Digests T.n_Digests__modulus (je_var 0) (je_op o_sub (je_op o_shl je_int (je_var 1)) je_int))
    (jss_one (js_fld T.k_Digests T.n_Digests__book (je_var 0) (je_var 2)))))
theorem sc_L_draw : FnScope ["_law_bag_here", "_law_many", "_law_seed", "_law_rest"] ["_law_bag_here", "_law_many"] (defScope s_L_draw) := ⟨rfl, rfl, rfl, by decide +kernel, rfl, by decide +kernel, by decide +kernel⟩
theorem bi_L_draw (T : Tx w K mg Cl) : Binds K T.d_L_draw ["_law_bag_here", "_law_many"] [] := T.F_L_draw.binds fun _ _ _ _ _ _ us hl => match us, hl with | [_, _], _ => rfl
theorem ok_L_draw (T : Tx w K mg Cl) : FnOk P w K mg base CX0 1 T.a_L_draw T.d_L_draw ["_law_bag_here", "_law_many"] (spM K Cl 2 m_L_draw) := by
  refine fn_ok T.F_L_draw sc_L_draw rfl rfl fun cdv A outer s H E hr => ?_
  have hN := (sc_L_draw).nd
  exact (jss_cons (js_if (jt_cmp o_lt (je_var 1) je_int (nomark _)) (jss_one (js_ret je_int)) jss_nil)
    (jss_cons (js_if (jt_cmp (o_eq (room65 hr)) (je_ix (je_var 0) je_int) je_int (nomark _)) (jss_cons (js_set 2 hN (je_op o_mod (je_callTy c_int T.b_int PyProof.Rows.boot_int (ja_cons (je_op o_add (je_op o_add (je_op o_mul (je_ix (je_var 0) je_int) je_int) (je_op o_mul (je_ix (je_var 0) je_int) je_int)) je_int) ja_nil)) je_int))
    (jss_cons (js_asg (je_op o_add (je_op o_mul (je_var 2) je_int) (je_op o_mod (je_callTy c_int T.b_int PyProof.Rows.boot_int (ja_cons (je_op o_add (je_op o_mul (je_var 2) (je_var 2)) (je_op o_mul (je_ix (je_var 0) je_int) je_int)) ja_nil)) je_int)) (jg_sub (E := E0) (je_var 0) je_int))
    (jss_one (js_asg (je_var 2) (jg_sub (E := E0) (je_var 0) je_int))))) jss_nil)
    (jss_cons (js_set 3 hN (je_ix (je_var 0) je_int))
    (jss_cons (js_asg (je_op o_fdiv (je_var 3) (je_var 1)) (jg_sub (E := E0) (je_var 0) je_int))
    (jss_one (js_ret (je_op o_mod (je_callTy c_int T.b_int PyProof.Rows.boot_int (ja_cons (je_var 3) ja_nil)) (je_var 1))))))))
theorem sc_Digests_modulus : FnScope ["self"] ["self"] (defScope s_Digests_modulus) := ⟨rfl, rfl, rfl, by decide +kernel, rfl, by decide +kernel, by decide +kernel⟩
theorem bi_Digests_modulus (T : Tx w K mg Cl) : Binds K T.d_Digests_modulus ["self"] [] := T.F_Digests_modulus.binds fun _ _ _ _ _ _ us hl => match us, hl with | [_], _ => rfl
theorem ok_Digests_modulus (T : Tx w K mg Cl) : FnOk P w K mg base CX0 1 T.a_Digests_modulus T.d_Digests_modulus ["self"] (spM K Cl 1 m_Digests_modulus) := by
  refine fn_ok T.F_Digests_modulus sc_Digests_modulus rfl rfl fun cdv A outer s H E hr => ?_
  have hN := (sc_Digests_modulus).nd
  exact (jss_one (js_ret (je_fld T.k_Digests T.n_Digests__modulus (je_var 0))))
theorem sc_L_right : FnScope ["_law_bag_here", "_law_digests", "_law_top", "_law_number", "_law_digest", "_law_path", "_law_row", "_law_kind", "_law_inputs", "_law_registers_here"] ["_law_bag_here", "_law_digests"] (defScope s_L_right) := ⟨rfl, rfl, rfl, by decide +kernel, rfl, by decide +kernel, by decide +kernel⟩
theorem bi_L_right (T : Tx w K mg Cl) : Binds K T.d_L_right ["_law_bag_here", "_law_digests"] [] := T.F_L_right.binds fun _ _ _ _ _ _ us hl => match us, hl with | [_, _], _ => rfl
theorem ok_L_right (T : Tx w K mg Cl) : FnOk P w K mg base CX0 2 T.a_L_right T.d_L_right ["_law_bag_here", "_law_digests"] (spM K Cl 2 m_L_right) := by
  refine fn_ok T.F_L_right sc_L_right rfl rfl fun cdv A outer s H E hr => ?_
  have hN := (sc_L_right).nd
  exact (jss_cons (js_set 2 hN (je_op o_sub (je_meth0 T.k_Digests T.m_Digests_modulus (ok_Digests_modulus T) (hr.mono (by decide)) (bi_Digests_modulus T) (let0 nox_def) (je_var 1)) je_int))
    (jss_cons (js_set 3 hN (je_ix (je_lst (ja_cons je_int (ja_cons je_int (ja_cons je_int (ja_cons (je_op o_pow je_int je_int) ja_nil))))) (je_call (ok_L_draw T) (hr.mono (by decide)) T.g_L_draw T.F_L_draw.kp (bi_L_draw T) (let0 nox_def) (ja_cons (je_var 0) (ja_cons je_int ja_nil)))))
    (jss_cons (js_set 4 hN (je_ix (je_lst (ja_cons je_int (ja_cons je_int (ja_cons (je_var 2) ja_nil)))) (je_call (ok_L_draw T) (hr.mono (by decide)) T.g_L_draw T.F_L_draw.kp (bi_L_draw T) (let0 nox_def) (ja_cons (je_var 0) (ja_cons je_int ja_nil)))))
    (jss_cons (js_set 5 hN (je_op o_mulR (je_tup (ja_cons (je_var 4) ja_nil)) (je_call (ok_L_draw T) (hr.mono (by decide)) T.g_L_draw T.F_L_draw.kp (bi_L_draw T) (let0 nox_def) (ja_cons (je_var 0) (ja_cons je_int ja_nil)))))
    (jss_cons (js_set 6 hN (je_op o_mulR (je_tup (ja_cons je_int ja_nil)) (je_ix (je_lst (ja_cons je_int (ja_cons je_int (ja_cons je_int ja_nil)))) (je_call (ok_L_draw T) (hr.mono (by decide)) T.g_L_draw T.F_L_draw.kp (bi_L_draw T) (let0 nox_def) (ja_cons (je_var 0) (ja_cons je_int ja_nil))))))
    (jss_cons (js_set 7 hN (je_call (ok_L_draw T) (hr.mono (by decide)) T.g_L_draw T.F_L_draw.kp (bi_L_draw T) (let0 nox_def) (ja_cons (je_var 0) (ja_cons je_int ja_nil))))
    (jss_cons (js_if (jt_cmp (o_eq (room65 hr)) (je_var 7) je_int (nomark _)) (jss_cons (js_set 8 hN (je_ix (je_lst (ja_cons (je_var 6) (ja_cons (je_tup (ja_cons je_str (ja_cons (je_var 3) ja_nil))) (ja_cons (je_tup ja_nil) (ja_cons (je_tup (ja_cons je_int (ja_cons je_int ja_nil))) ja_nil))))) (je_call (ok_L_draw T) (hr.mono (by decide)) T.g_L_draw T.F_L_draw.kp (bi_L_draw T) (let0 nox_def) (ja_cons (je_var 0) (ja_cons je_int ja_nil)))))
    (jss_one (js_ret (je_tup (ja_cons je_str (ja_cons (je_op o_mulR (je_tup (ja_cons je_int ja_nil)) (je_ix (je_lst (ja_cons je_int (ja_cons je_int (ja_cons je_int ja_nil)))) (je_call (ok_L_draw T) (hr.mono (by decide)) T.g_L_draw T.F_L_draw.kp (bi_L_draw T) (let0 nox_def) (ja_cons (je_var 0) (ja_cons je_int ja_nil))))) (ja_cons (je_var 8) (ja_cons (je_call (ok_L_draw T) (hr.mono (by decide)) T.g_L_draw T.F_L_draw.kp (bi_L_draw T) (let0 nox_def) (ja_cons (je_var 0) (ja_cons je_int ja_nil))) ja_nil)))))))) jss_nil)
    (jss_cons (js_if (jt_cmp (o_eq (room65 hr)) (je_var 7) je_int (nomark _)) (jss_cons (js_set 9 hN (je_tup (ja_cons (je_call (ok_L_draw T) (hr.mono (by decide)) T.g_L_draw T.F_L_draw.kp (bi_L_draw T) (let0 nox_def) (ja_cons (je_var 0) (ja_cons je_int ja_nil))) (ja_cons je_int (ja_cons je_int (ja_cons (je_call (ok_L_draw T) (hr.mono (by decide)) T.g_L_draw T.F_L_draw.kp (bi_L_draw T) (let0 nox_def) (ja_cons (je_var 0) (ja_cons je_int ja_nil))) (ja_cons (je_var 4) (ja_cons (je_call (ok_L_draw T) (hr.mono (by decide)) T.g_L_draw T.F_L_draw.kp (bi_L_draw T) (let0 nox_def) (ja_cons (je_var 0) (ja_cons je_int ja_nil))) ja_nil))))))))
    (jss_one (js_ret (je_tup (ja_cons je_str (ja_cons (je_var 3) (ja_cons (je_var 4) (ja_cons (je_var 2) (ja_cons (je_var 5) (ja_cons (je_var 9) (ja_cons je_int (ja_cons (je_var 6) ja_nil)))))))))))) jss_nil)
    (jss_cons (js_if (jt_cmp (o_eq (room65 hr)) (je_var 7) je_int (nomark _)) (jss_one (js_ret (je_tup (ja_cons je_str (ja_cons (je_var 3) (ja_cons (je_call (ok_L_draw T) (hr.mono (by decide)) T.g_L_draw T.F_L_draw.kp (bi_L_draw T) (let0 nox_def) (ja_cons (je_var 0) (ja_cons je_int ja_nil))) (ja_cons (je_var 3) (ja_cons je_int (ja_cons (je_var 4) (ja_cons (je_var 2) (ja_cons je_int (ja_cons (je_var 4) (ja_cons je_int (ja_cons (je_var 5) ja_nil)))))))))))))) jss_nil)
    (jss_one (js_ret (je_tup (ja_cons je_str (ja_cons (je_var 3) (ja_cons (je_var 3) (ja_cons (je_var 2) (ja_cons (je_var 4) (ja_cons (je_var 2) (ja_cons (je_ix (je_lst (ja_cons je_non (ja_cons (je_tup ja_nil) (ja_cons je_str (ja_cons (je_tup (ja_cons (je_tup (ja_cons je_int (ja_cons je_int (ja_cons je_int (ja_cons je_int (ja_cons je_int (ja_cons je_int ja_nil))))))) (ja_cons je_int (ja_cons (je_tup ja_nil) ja_nil)))) ja_nil))))) (je_call (ok_L_draw T) (hr.mono (by decide)) T.g_L_draw T.F_L_draw.kp (bi_L_draw T) (let0 nox_def) (ja_cons (je_var 0) (ja_cons je_int ja_nil)))) ja_nil)))))))))))))))))))
theorem sc_L_spoilt : FnScope ["_law_bag_here", "_law_value", "_law_odd", "_law_at", "_law_choice"] ["_law_bag_here", "_law_value", "_law_odd"] (defScope s_L_spoilt) := ⟨rfl, rfl, rfl, by decide +kernel, rfl, by decide +kernel, by decide +kernel⟩
theorem bi_L_spoilt (T : Tx w K mg Cl) : Binds K T.d_L_spoilt ["_law_bag_here", "_law_value", "_law_odd"] [] := T.F_L_spoilt.binds fun _ _ _ _ _ _ us hl => match us, hl with | [_, _, _], _ => rfl
theorem ok_L_spoilt (T : Tx w K mg Cl) : ∀ d : Nat, FnOk P w K mg base CX0 (d + 2) T.a_L_spoilt T.d_L_spoilt ["_law_bag_here", "_law_value", "_law_odd"] (spM K Cl 3 (m_L_spoilt d))
  | 0 => by
    rw [Nat.zero_add]
    exact fn_ok T.F_L_spoilt sc_L_spoilt rfl rfl fun cdv A outer s H E hr => jss_dead
  | d + 1 => by
    have ih := ok_L_spoilt T d
    refine fn_ok T.F_L_spoilt sc_L_spoilt rfl rfl fun cdv A outer s H E hr => ?_
    have hN := (sc_L_spoilt).nd
    exact (jss_cons (js_if (jt_w (jw_or (jt_not (jt_tru (je_isi T.b_isinstance T.b_tuple PyProof.Rows.boot_tuple (je_var 1)))) (jw_or (jt_cmp (o_eq (room65 hr)) (je_callB c_len T.b_len PySem.boot_len (ja_cons (je_var 1) ja_nil)) je_int (nomark _)) (jw_or1 (jt_cmp (o_eq (room65 hr)) (je_call (ok_L_draw T) (hr.mono (by omega)) T.g_L_draw T.F_L_draw.kp (bi_L_draw T) (let0 nox_def) (ja_cons (je_var 0) (ja_cons je_int ja_nil))) je_int (nomark _)))))) (jss_one (js_ret (je_var 2))) jss_nil)
    (jss_cons (js_set 3 hN (je_call (ok_L_draw T) (hr.mono (by omega)) T.g_L_draw T.F_L_draw.kp (bi_L_draw T) (let0 nox_def) (ja_cons (je_var 0) (ja_cons (je_callB c_len T.b_len PySem.boot_len (ja_cons (je_var 1) ja_nil)) ja_nil))))
    (jss_cons (js_set 4 hN (je_call (ok_L_draw T) (hr.mono (by omega)) T.g_L_draw T.F_L_draw.kp (bi_L_draw T) (let0 nox_def) (ja_cons (je_var 0) (ja_cons je_int ja_nil))))
    (jss_cons (js_if (jt_cmp (o_eq (room65 hr)) (je_var 4) je_int (nomark _)) (jss_one (js_ret (je_op o_add (je_sl (je_var 1) jo_none (jo_some (je_var 3))) (je_sl (je_var 1) (jo_some (je_op o_add (je_var 3) je_int)) jo_none)))) jss_nil)
    (jss_cons (js_if (jt_cmp (o_eq (room65 hr)) (je_var 4) je_int (nomark _)) (jss_one (js_ret (je_op o_add (je_op o_add (je_sl (je_var 1) jo_none (jo_some (je_var 3))) (je_tup (ja_cons (je_var 2) ja_nil))) (je_sl (je_var 1) (jo_some (je_var 3)) jo_none)))) jss_nil)
    (jss_cons (js_if (jt_cmp (o_eq (room65 hr)) (je_var 4) je_int (nomark _)) (jss_one (js_ret (je_op o_add (je_op o_add (je_sl (je_var 1) jo_none (jo_some (je_var 3))) (je_sl (je_var 1) (jo_some (je_var 3)) (jo_some (je_op o_add (je_var 3) je_int)))) (je_sl (je_var 1) (jo_some (je_var 3)) jo_none)))) jss_nil)
    (jss_cons (js_if (jt_cmp (o_eq (room65 hr)) (je_var 4) je_int (nomark _)) (jss_one (js_ret (je_op o_add (je_op o_add (je_op o_add (je_sl (je_var 1) jo_none (jo_some (je_var 3))) (je_sl (je_var 1) (jo_some (je_op o_add (je_var 3) je_int)) (jo_some (je_op o_add (je_var 3) je_int)))) (je_sl (je_var 1) (jo_some (je_var 3)) (jo_some (je_op o_add (je_var 3) je_int)))) (je_sl (je_var 1) (jo_some (je_op o_add (je_var 3) je_int)) jo_none)))) jss_nil)
    (jss_one (js_ret (je_op o_add (je_op o_add (je_sl (je_var 1) jo_none (jo_some (je_var 3))) (je_tup (ja_cons (je_call ih (hr.mono (by omega)) T.g_L_spoilt T.F_L_spoilt.kp (bi_L_spoilt T) (let0 (nox_L_spoilt d)) (ja_cons (je_var 0) (ja_cons (je_ix (je_var 1) (je_var 3)) (ja_cons (je_var 2) ja_nil)))) ja_nil))) (je_sl (je_var 1) (jo_some (je_op o_add (je_var 3) je_int)) jo_none)))))))))))
theorem sc_is_integer : FnScope ["value", "least", "greatest"] ["value", "least", "greatest"] (defScope s_is_integer) := ⟨rfl, rfl, rfl, by decide +kernel, rfl, by decide +kernel, by decide +kernel⟩
theorem bi_is_integer (T : Tx w K mg Cl) : Binds K T.d_is_integer ["value", "least", "greatest"] [] := T.F_is_integer.binds fun _ _ _ _ _ _ us hl => match us, hl with | [_, _, _], _ => rfl
theorem ok_is_integer (T : Tx w K mg Cl) : FnOk P w K mg base CX0 1 T.a_is_integer T.d_is_integer ["value", "least", "greatest"] (spM K Cl 3 m_is_integer) := by
  refine fn_ok T.F_is_integer sc_is_integer rfl rfl fun cdv A outer s H E hr => ?_
  have hN := (sc_is_integer).nd
  exact (jss_one (js_ret (je_and (je_isi T.b_isinstance T.b_int PyProof.Rows.boot_int (je_var 0)) (je_and (je_not (je_isi T.b_isinstance T.b_bool PyProof.Rows.boot_bool (je_var 0))) (je_one (je_chain o_le o_le (je_var 1) (je_var 0) (je_var 2)))))))
theorem sc_is_word : FnScope ["value"] ["value"] (defScope s_is_word) := ⟨rfl, rfl, rfl, by decide +kernel, rfl, by decide +kernel, by decide +kernel⟩
theorem bi_is_word (T : Tx w K mg Cl) : Binds K T.d_is_word ["value"] [] := T.F_is_word.binds fun _ _ _ _ _ _ us hl => match us, hl with | [_], _ => rfl
theorem ok_is_word (T : Tx w K mg Cl) : FnOk P w K mg base CX0 2 T.a_is_word T.d_is_word ["value"] (spM K Cl 1 m_is_word) := by
  refine fn_ok T.F_is_word sc_is_word rfl rfl fun cdv A outer s H E hr => ?_
  have hN := (sc_is_word).nd
  exact (jss_one (js_ret (je_call (ok_is_integer T) (hr.mono (by decide)) T.g_is_integer T.F_is_integer.kp (bi_is_integer T) (let0 nox_def) (ja_cons (je_var 0) (ja_cons je_int (ja_cons (je_glob T.c_MOST_WORD) ja_nil))))))
theorem sc_is_row : FnScope ["value", "most", "one"] ["value", "most"] (defScope s_is_row) := ⟨rfl, rfl, rfl, by decide +kernel, rfl, by decide +kernel, by decide +kernel⟩
theorem bi_is_row (T : Tx w K mg Cl) : Binds K T.d_is_row ["value", "most"] [] := T.F_is_row.binds fun _ _ _ _ _ _ us hl => match us, hl with | [_, _], _ => rfl
theorem ok_is_row (T : Tx w K mg Cl) : FnOk P w K mg base CX0 3 T.a_is_row T.d_is_row ["value", "most"] (spM K Cl 2 m_is_row) := by
  refine fn_ok T.F_is_row sc_is_row rfl rfl fun cdv A outer s H E hr => ?_
  have hN := (sc_is_row).nd
  exact (jss_one (js_ret (je_and (je_isi T.b_isinstance T.b_tuple PyProof.Rows.boot_tuple (je_var 0)) (je_and (je_cmp o_le (je_callB c_len T.b_len PySem.boot_len (ja_cons (je_var 0) ja_nil)) (je_var 1) (nomark _)) (je_one (je_callB (c_all rfl) T.b_all PyProof.Rows.boot_all (ja_cons (je_lc rfl hN (ji_tup (je_var 0)) (blkOk_by (own := [("one", 2)]) (by show blkC ["value", "most", "one"] (defScope s_is_row) _ [("one", 2)] = true; decide +kernel)) (fun _ _ _ _ _ => (jn_nm 2 hN)) (fun _ _ _ _ _ => jts_nil) (fun _ _ _ _ _ => (je_call (ok_is_word T) (hr.mono (by decide)) T.g_is_word T.F_is_word.kp (bi_is_word T) (let0 nox_def) (ja_cons (je_var 2) ja_nil)))) ja_nil)))))))
theorem sc_is_number : FnScope ["value"] ["value"] (defScope s_is_number) := ⟨rfl, rfl, rfl, by decide +kernel, rfl, by decide +kernel, by decide +kernel⟩
theorem bi_is_number (T : Tx w K mg Cl) : Binds K T.d_is_number ["value"] [] := T.F_is_number.binds fun _ _ _ _ _ _ us hl => match us, hl with | [_], _ => rfl
theorem ok_is_number (T : Tx w K mg Cl) : FnOk P w K mg base CX0 1 T.a_is_number T.d_is_number ["value"] (spM K Cl 1 m_is_number) := by
  refine fn_ok T.F_is_number sc_is_number rfl rfl fun cdv A outer s H E hr => ?_
  have hN := (sc_is_number).nd
  exact (jss_one (js_ret (je_and (je_isi T.b_isinstance T.b_int PyProof.Rows.boot_int (je_var 0)) (je_and (je_not (je_isi T.b_isinstance T.b_bool PyProof.Rows.boot_bool (je_var 0))) (je_one (je_cmp o_ge (je_var 0) je_int (nomark _)))))))
theorem sc_is_source : FnScope ["value"] ["value"] (defScope s_is_source) := ⟨rfl, rfl, rfl, by decide +kernel, rfl, by decide +kernel, by decide +kernel⟩
theorem bi_is_source (T : Tx w K mg Cl) : Binds K T.d_is_source ["value"] [] := T.F_is_source.binds fun _ _ _ _ _ _ us hl => match us, hl with | [_], _ => rfl
theorem ok_is_source (T : Tx w K mg Cl) : FnOk P w K mg base CX0 4 T.a_is_source T.d_is_source ["value"] (spM K Cl 1 m_is_source) := by
  refine fn_ok T.F_is_source sc_is_source rfl rfl fun cdv A outer s H E hr => ?_
  have hN := (sc_is_source).nd
  exact (jss_cons (js_if (jt_w (jw_and (jt_tru (je_isi T.b_isinstance T.b_tuple PyProof.Rows.boot_tuple (je_var 0))) (jw_and (jt_cmp (o_eq (room65 hr)) (je_callB c_len T.b_len PySem.boot_len (ja_cons (je_var 0) ja_nil)) je_int (nomark _)) (jw_and1 (jt_tru (je_isi T.b_isinstance T.b_str PyProof.Rows.boot_str (je_ix (je_var 0) je_int))))))) (jss_one (js_ret (je_and (je_cmp (o_eq (room65 hr)) (je_ix (je_var 0) je_int) je_str (nomark _)) (je_one (je_call (ok_is_number T) (hr.mono (by decide)) T.g_is_number T.F_is_number.kp (bi_is_number T) (let0 nox_def) (ja_cons (je_ix (je_var 0) je_int) ja_nil)))))) jss_nil)
    (jss_one (js_ret (je_call (ok_is_row T) (hr.mono (by decide)) T.g_is_row T.F_is_row.kp (bi_is_row T) (let0 nox_def) (ja_cons (je_var 0) (ja_cons (je_glob T.c_MOST_INPUTS) ja_nil))))))
theorem sc_Digests_is_digest : FnScope ["self", "value"] ["self", "value"] (defScope s_Digests_is_digest) := ⟨rfl, rfl, rfl, by decide +kernel, rfl, by decide +kernel, by decide +kernel⟩
theorem bi_Digests_is_digest (T : Tx w K mg Cl) : Binds K T.d_Digests_is_digest ["self", "value"] [] := T.F_Digests_is_digest.binds fun _ _ _ _ _ _ us hl => match us, hl with | [_, _], _ => rfl
theorem ok_Digests_is_digest (T : Tx w K mg Cl) : FnOk P w K mg base CX0 2 T.a_Digests_is_digest T.d_Digests_is_digest ["self", "value"] (spM K Cl 2 m_Digests_is_digest) := by
  refine fn_ok T.F_Digests_is_digest sc_Digests_is_digest rfl rfl fun cdv A outer s H E hr => ?_
  have hN := (sc_Digests_is_digest).nd
  exact (jss_one (js_ret (je_call (ok_is_integer T) (hr.mono (by decide)) T.g_is_integer T.F_is_integer.kp (bi_is_integer T) (let0 nox_def) (ja_cons (je_var 1) (ja_cons je_int (ja_cons (je_op o_sub (je_fld T.k_Digests T.n_Digests__modulus (je_var 0)) je_int) ja_nil))))))
theorem sc_are_digests : FnScope ["digests", "value", "one"] ["digests", "value"] (defScope s_are_digests) := ⟨rfl, rfl, rfl, by decide +kernel, rfl, by decide +kernel, by decide +kernel⟩
theorem bi_are_digests (T : Tx w K mg Cl) : Binds K T.d_are_digests ["digests", "value"] [] := T.F_are_digests.binds fun _ _ _ _ _ _ us hl => match us, hl with | [_, _], _ => rfl
theorem ok_are_digests (T : Tx w K mg Cl) : FnOk P w K mg base CX0 3 T.a_are_digests T.d_are_digests ["digests", "value"] (spM K Cl 2 m_are_digests) := by
  refine fn_ok T.F_are_digests sc_are_digests rfl rfl fun cdv A outer s H E hr => ?_
  have hN := (sc_are_digests).nd
  exact (jss_one (js_ret (je_and (je_isi T.b_isinstance T.b_tuple PyProof.Rows.boot_tuple (je_var 1)) (je_one (je_callB (c_all rfl) T.b_all PyProof.Rows.boot_all (ja_cons (je_lc rfl hN (ji_tup (je_var 1)) (blkOk_by (own := [("one", 2)]) (by show blkC ["digests", "value", "one"] (defScope s_are_digests) _ [("one", 2)] = true; decide +kernel)) (fun _ _ _ _ _ => (jn_nm 2 hN)) (fun _ _ _ _ _ => jts_nil) (fun _ _ _ _ _ => (je_meth T.k_Digests T.m_Digests_is_digest (ok_Digests_is_digest T) (hr.mono (by decide)) (bi_Digests_is_digest T) (let0 nox_def) (je_var 0) (ja_cons (je_var 2) ja_nil)))) ja_nil))))))
theorem sc_are_registers : FnScope ["digests", "value", "pc", "acc", "x", "mark", "out", "count"] ["digests", "value"] (defScope s_are_registers) := ⟨rfl, rfl, rfl, by decide +kernel, rfl, by decide +kernel, by decide +kernel⟩
theorem bi_are_registers (T : Tx w K mg Cl) : Binds K T.d_are_registers ["digests", "value"] [] := T.F_are_registers.binds fun _ _ _ _ _ _ us hl => match us, hl with | [_, _], _ => rfl
theorem ok_are_registers (T : Tx w K mg Cl) : FnOk P w K mg base CX0 3 T.a_are_registers T.d_are_registers ["digests", "value"] (spM K Cl 2 m_are_registers) := by
  refine fn_ok T.F_are_registers sc_are_registers rfl rfl fun cdv A outer s H E hr => ?_
  have hN := (sc_are_registers).nd
  exact (jss_cons (js_if (jt_w (jw_or (jt_not (jt_tru (je_isi T.b_isinstance T.b_tuple PyProof.Rows.boot_tuple (je_var 1)))) (jw_or1 (jt_cmp (o_ne (room65 hr)) (je_callB c_len T.b_len PySem.boot_len (ja_cons (je_var 1) ja_nil)) je_int (nomark _))))) (jss_one (js_ret je_bl)) jss_nil)
    (jss_cons (js_asg (je_var 1) (jg_tup rfl (jgs_cons (jg_name 2 hN) (jgs_cons (jg_name 3 hN) (jgs_cons (jg_name 4 hN) (jgs_cons (jg_name 5 hN) (jgs_cons (jg_name 6 hN) (jgs_cons (jg_name 7 hN) jgs_nil))))))))
    (jss_cons (js_if (jt_w (jw_or (jt_not (jt_tru (je_call (ok_is_integer T) (hr.mono (by decide)) T.g_is_integer T.F_is_integer.kp (bi_is_integer T) (let0 nox_def) (ja_cons (je_var 2) (ja_cons je_int (ja_cons (je_op o_sub (je_glob T.c_PLACES) je_int) ja_nil)))))) (jw_or (jt_not (jt_tru (je_call (ok_is_word T) (hr.mono (by decide)) T.g_is_word T.F_is_word.kp (bi_is_word T) (let0 nox_def) (ja_cons (je_var 3) ja_nil)))) (jw_or1 (jt_not (jt_tru (je_call (ok_is_word T) (hr.mono (by decide)) T.g_is_word T.F_is_word.kp (bi_is_word T) (let0 nox_def) (ja_cons (je_var 4) ja_nil)))))))) (jss_one (js_ret je_bl)) jss_nil)
    (jss_one (js_ret (je_and (je_call (ok_is_integer T) (hr.mono (by decide)) T.g_is_integer T.F_is_integer.kp (bi_is_integer T) (let0 nox_def) (ja_cons (je_var 5) (ja_cons je_int (ja_cons (je_op o_sub (je_callB c_len T.b_len PySem.boot_len (ja_cons (je_glob T.c_MARKS) ja_nil)) je_int) ja_nil)))) (je_and (je_meth T.k_Digests T.m_Digests_is_digest (ok_Digests_is_digest T) (hr.mono (by decide)) (bi_Digests_is_digest T) (let0 nox_def) (je_var 0) (ja_cons (je_var 6) ja_nil)) (je_one (je_call (ok_is_integer T) (hr.mono (by decide)) T.g_is_integer T.F_is_integer.kp (bi_is_integer T) (let0 nox_def) (ja_cons (je_var 7) (ja_cons je_int (ja_cons (je_glob T.c_MOST_TOLD) ja_nil))))))))))))
theorem sc_is_letter : FnScope ["digests", "value", "_", "root", "last", "path", "registers", "memory", "told"] ["digests", "value"] (defScope s_is_letter) := ⟨rfl, rfl, rfl, by decide +kernel, rfl, by decide +kernel, by decide +kernel⟩
theorem bi_is_letter (T : Tx w K mg Cl) : Binds K T.d_is_letter ["digests", "value"] [] := T.F_is_letter.binds fun _ _ _ _ _ _ us hl => match us, hl with | [_, _], _ => rfl
theorem ok_is_letter (T : Tx w K mg Cl) : FnOk P w K mg base CX0 5 T.a_is_letter T.d_is_letter ["digests", "value"] (spM K Cl 2 m_is_letter) := by
  refine fn_ok T.F_is_letter sc_is_letter rfl rfl fun cdv A outer s H E hr => ?_
  have hN := (sc_is_letter).nd
  exact (jss_cons (js_if (jt_w (jw_or (jt_not (jt_tru (je_isi T.b_isinstance T.b_tuple PyProof.Rows.boot_tuple (je_var 1)))) (jw_or (jt_cmp (o_eq (room65 hr)) (je_callB c_len T.b_len PySem.boot_len (ja_cons (je_var 1) ja_nil)) je_int (nomark _)) (jw_or (jt_not (jt_tru (je_isi T.b_isinstance T.b_str PyProof.Rows.boot_str (je_ix (je_var 1) je_int)))) (jw_or1 (jt_notInT T.D_SIZES T.gD_SIZES (je_ix (je_var 1) je_int))))))) (jss_one (js_ret je_bl)) jss_nil)
    (jss_cons (js_if (jt_cmp (o_ne (room65 hr)) (je_callB c_len T.b_len PySem.boot_len (ja_cons (je_var 1) ja_nil)) (je_itemT T.D_SIZES T.gD_SIZES (je_ix (je_var 1) je_int)) (nomark _)) (jss_one (js_ret je_bl)) jss_nil)
    (jss_cons (js_if (jt_cmp (o_eq (room65 hr)) (je_ix (je_var 1) je_int) je_str (nomark _)) (jss_one (js_ret (je_and (je_call (ok_is_row T) (hr.mono (by decide)) T.g_is_row T.F_is_row.kp (bi_is_row T) (let0 nox_def) (ja_cons (je_ix (je_var 1) je_int) (ja_cons (je_glob T.c_MOST_IMAGE) ja_nil))) (je_and (je_call (ok_is_source T) (hr.mono (by decide)) T.g_is_source T.F_is_source.kp (bi_is_source T) (let0 nox_def) (ja_cons (je_ix (je_var 1) je_int) ja_nil)) (je_one (je_call (ok_is_integer T) (hr.mono (by decide)) T.g_is_integer T.F_is_integer.kp (bi_is_integer T) (let0 nox_def) (ja_cons (je_ix (je_var 1) je_int) (ja_cons je_int (ja_cons (je_glob T.c_MOST_LEVEL) ja_nil))))))))) jss_nil)
    (jss_cons (js_if (jt_not (jt_tru (je_call (ok_is_number T) (hr.mono (by decide)) T.g_is_number T.F_is_number.kp (bi_is_number T) (let0 nox_def) (ja_cons (je_ix (je_var 1) je_int) ja_nil)))) (jss_one (js_ret je_bl)) jss_nil)
    (jss_cons (js_if (jt_cmp (o_eq (room65 hr)) (je_ix (je_var 1) je_int) je_str (nomark _)) (jss_cons (js_asg (je_var 1) (jg_tup rfl (jgs_cons (jg_name 2 hN) (jgs_cons (jg_name 2 hN) (jgs_cons (jg_name 3 hN) (jgs_cons (jg_name 4 hN) (jgs_cons (jg_name 5 hN) (jgs_cons (jg_name 6 hN) (jgs_cons (jg_name 7 hN) (jgs_cons (jg_name 8 hN) jgs_nil))))))))))
    (jss_cons (js_if (jt_w (jw_or (jt_not (jt_tru (je_call (ok_are_digests T) (hr.mono (by decide)) T.g_are_digests T.F_are_digests.kp (bi_are_digests T) (let0 nox_def) (ja_cons (je_var 0) (ja_cons (je_tup (ja_cons (je_var 3) (ja_cons (je_var 4) (ja_cons (je_var 7) ja_nil)))) ja_nil))))) (jw_or1 (jt_not (jt_tru (je_call (ok_are_digests T) (hr.mono (by decide)) T.g_are_digests T.F_are_digests.kp (bi_are_digests T) (let0 nox_def) (ja_cons (je_var 0) (ja_cons (je_var 5) ja_nil)))))))) (jss_one (js_ret je_bl)) jss_nil)
    (jss_one (js_ret (je_and (je_call (ok_are_registers T) (hr.mono (by decide)) T.g_are_registers T.F_are_registers.kp (bi_are_registers T) (let0 nox_def) (ja_cons (je_var 0) (ja_cons (je_var 6) ja_nil))) (je_one (je_call (ok_is_row T) (hr.mono (by decide)) T.g_is_row T.F_is_row.kp (bi_is_row T) (let0 nox_def) (ja_cons (je_var 8) (ja_cons (je_glob T.c_MOST_TOLD) ja_nil))))))))) jss_nil)
    (jss_cons (js_if (jt_cmp (o_eq (room65 hr)) (je_ix (je_var 1) je_int) je_str (nomark _)) (jss_cons (js_if (jt_w (jw_or (jt_not (jt_tru (je_call (ok_is_number T) (hr.mono (by decide)) T.g_is_number T.F_is_number.kp (bi_is_number T) (let0 nox_def) (ja_cons (je_ix (je_var 1) je_int) ja_nil)))) (jw_or1 (jt_not (jt_tru (je_call (ok_is_number T) (hr.mono (by decide)) T.g_is_number T.F_is_number.kp (bi_is_number T) (let0 nox_def) (ja_cons (je_ix (je_var 1) je_int) ja_nil))))))) (jss_one (js_ret je_bl)) jss_nil)
    (jss_one (js_ret (je_and (je_call (ok_are_digests T) (hr.mono (by decide)) T.g_are_digests T.F_are_digests.kp (bi_are_digests T) (let0 nox_def) (ja_cons (je_var 0) (ja_cons (je_sl (je_var 1) (jo_some je_int) (jo_some je_int)) ja_nil))) (je_one (je_call (ok_are_digests T) (hr.mono (by decide)) T.g_are_digests T.F_are_digests.kp (bi_are_digests T) (let0 nox_def) (ja_cons (je_var 0) (ja_cons (je_ix (je_var 1) je_int) ja_nil)))))))) jss_nil)
    (jss_one (js_ret (je_and (je_call (ok_is_number T) (hr.mono (by decide)) T.g_is_number T.F_is_number.kp (bi_is_number T) (let0 nox_def) (ja_cons (je_ix (je_var 1) je_int) ja_nil)) (je_one (je_call (ok_are_digests T) (hr.mono (by decide)) T.g_are_digests T.F_are_digests.kp (bi_are_digests T) (let0 nox_def) (ja_cons (je_var 0) (ja_cons (je_sl (je_var 1) (jo_some je_int) (jo_some je_int)) ja_nil)))))))))))))
theorem sc_L_is_number : FnScope ["_law_value", "_law_most"] ["_law_value", "_law_most"] (defScope s_L_is_number) := ⟨rfl, rfl, rfl, by decide +kernel, rfl, by decide +kernel, by decide +kernel⟩
theorem bi_L_is_number (T : Tx w K mg Cl) : Binds K T.d_L_is_number ["_law_value", "_law_most"] [] := T.F_L_is_number.binds fun _ _ _ _ _ _ us hl => match us, hl with | [_, _], _ => rfl
theorem ok_L_is_number (T : Tx w K mg Cl) : FnOk P w K mg base CX0 1 T.a_L_is_number T.d_L_is_number ["_law_value", "_law_most"] (spM K Cl 2 m_L_is_number) := by
  refine fn_ok T.F_L_is_number sc_L_is_number rfl rfl fun cdv A outer s H E hr => ?_
  have hN := (sc_L_is_number).nd
  exact (jss_one (js_ret (je_and (je_isi T.b_isinstance T.b_int PyProof.Rows.boot_int (je_var 0)) (je_and (je_not (je_isi T.b_isinstance T.b_bool PyProof.Rows.boot_bool (je_var 0))) (je_and (je_cmp o_ge (je_var 0) je_int (nomark _)) (je_one (je_or (je_cmp o_isN (je_var 1) je_non (nomark _)) (je_one (je_cmp o_le (je_var 0) (je_var 1) (nomark _))))))))))
theorem sc_L_numbers : FnScope ["_law_value", "_law_most", "_law_size", "_law_one"] ["_law_value", "_law_most", "_law_size"] (defScope s_L_numbers) := ⟨rfl, rfl, rfl, by decide +kernel, rfl, by decide +kernel, by decide +kernel⟩
theorem bi_L_numbers (T : Tx w K mg Cl) : Binds K T.d_L_numbers ["_law_value", "_law_most", "_law_size"] [] := T.F_L_numbers.binds fun _ _ _ _ _ _ us hl => match us, hl with | [_, _, _], _ => rfl
theorem ok_L_numbers (T : Tx w K mg Cl) : FnOk P w K mg base CX0 2 T.a_L_numbers T.d_L_numbers ["_law_value", "_law_most", "_law_size"] (spM K Cl 3 m_L_numbers) := by
  refine fn_ok T.F_L_numbers sc_L_numbers rfl rfl fun cdv A outer s H E hr => ?_
  have hN := (sc_L_numbers).nd
  exact (jss_cons (js_if (jt_w (jw_or (jt_not (jt_tru (je_isi T.b_isinstance T.b_tuple PyProof.Rows.boot_tuple (je_var 0)))) (jw_or1 (jt_w (jw_and (jt_cmp o_notN (je_var 2) je_non (nomark _)) (jw_and1 (jt_cmp o_gt (je_callB c_len T.b_len PySem.boot_len (ja_cons (je_var 0) ja_nil)) (je_var 2) (nomark _)))))))) (jss_one (js_ret je_bl)) jss_nil)
    (jss_one (js_ret (je_cmp (o_eq (room65 hr)) (je_callB c_len T.b_len PySem.boot_len (ja_cons (je_lc rfl hN (ji_tup (je_var 0)) (blkOk_by (own := [("_law_one", 3)]) (by show blkC ["_law_value", "_law_most", "_law_size", "_law_one"] (defScope s_L_numbers) _ [("_law_one", 3)] = true; decide +kernel)) (fun _ _ _ _ _ => (jn_nm 3 hN)) (fun _ _ _ _ _ => (jts_one (jt_not (jt_tru (je_call (ok_L_is_number T) (hr.mono (by decide)) T.g_L_is_number T.F_L_is_number.kp (bi_L_is_number T) (let0 nox_def) (ja_cons (je_var 3) (ja_cons (je_var 1) ja_nil))))))) (fun _ _ _ _ _ => (je_var 3))) ja_nil)) je_int (nomark _)))))
theorem sc_L_registers : FnScope ["_law_value", "_law_top", "_law_bounds", "_law_k"] ["_law_value", "_law_top"] (defScope s_L_registers) := ⟨rfl, rfl, rfl, by decide +kernel, rfl, by decide +kernel, by decide +kernel⟩
theorem bi_L_registers (T : Tx w K mg Cl) : Binds K T.d_L_registers ["_law_value", "_law_top"] [] := T.F_L_registers.binds fun _ _ _ _ _ _ us hl => match us, hl with | [_, _], _ => rfl
theorem ok_L_registers (T : Tx w K mg Cl) : FnOk P w K mg base CX0 2 T.a_L_registers T.d_L_registers ["_law_value", "_law_top"] (spM K Cl 2 m_L_registers) := by
  refine fn_ok T.F_L_registers sc_L_registers rfl rfl fun cdv A outer s H E hr => ?_
  have hN := (sc_L_registers).nd
  exact (jss_cons (js_if (jt_w (jw_or (jt_not (jt_tru (je_isi T.b_isinstance T.b_tuple PyProof.Rows.boot_tuple (je_var 0)))) (jw_or1 (jt_cmp (o_ne (room65 hr)) (je_callB c_len T.b_len PySem.boot_len (ja_cons (je_var 0) ja_nil)) je_int (nomark _))))) (jss_one (js_ret je_bl)) jss_nil)
    (jss_cons (js_set 2 hN (je_lst (ja_cons je_int (ja_cons je_int (ja_cons je_int (ja_cons je_int (ja_cons (je_var 1) (ja_cons je_int ja_nil))))))))
    (jss_one (js_ret (je_cmp (o_eq (room65 hr)) (je_callB c_len T.b_len PySem.boot_len (ja_cons (je_lc rfl hN (ji_rng1 T.b_range (ja_cons je_int ja_nil)) (blkOk_by (own := [("_law_k", 3)]) (by show blkC ["_law_value", "_law_top", "_law_bounds", "_law_k"] (defScope s_L_registers) _ [("_law_k", 3)] = true; decide +kernel)) (fun _ _ _ _ _ => (jn_nm 3 hN)) (fun _ _ _ _ _ => (jts_one (jt_not (jt_tru (je_call (ok_L_is_number T) (hr.mono (by decide)) T.g_L_is_number T.F_L_is_number.kp (bi_L_is_number T) (let0 nox_def) (ja_cons (je_ix (je_var 0) (je_var 3)) (ja_cons (je_ix (je_var 2) (je_var 3)) ja_nil))))))) (fun _ _ _ _ _ => (je_var 3))) ja_nil)) je_int (nomark _))))))
theorem sc_L_due : FnScope ["_law_value", "_law_top", "_law_sizes", "_law_inputs", "_law_linked"] ["_law_value", "_law_top"] (defScope s_L_due) := ⟨rfl, rfl, rfl, by decide +kernel, rfl, by decide +kernel, by decide +kernel⟩
theorem bi_L_due (T : Tx w K mg Cl) : Binds K T.d_L_due ["_law_value", "_law_top"] [] := T.F_L_due.binds fun _ _ _ _ _ _ us hl => match us, hl with | [_, _], _ => rfl
theorem ok_L_due (T : Tx w K mg Cl) : FnOk P w K mg base CX0 3 T.a_L_due T.d_L_due ["_law_value", "_law_top"] (spM K Cl 2 m_L_due) := by
  refine fn_ok T.F_L_due sc_L_due rfl rfl fun cdv A outer s H E hr => ?_
  have hN := (sc_L_due).nd
  exact (jss_cons (js_set 2 hN (je_disp (jp_cons je_str je_int (jp_cons je_str je_int (jp_cons je_str je_int (jp_cons je_str je_int jp_nil))))))
    (jss_cons (js_if (jt_w (jw_or (jt_not (jt_tru (je_isi T.b_isinstance T.b_tuple PyProof.Rows.boot_tuple (je_var 0)))) (jw_or (jt_cmp (o_eq (room65 hr)) (je_callB c_len T.b_len PySem.boot_len (ja_cons (je_var 0) ja_nil)) je_int (nomark _)) (jw_or (jt_not (jt_tru (je_isi T.b_isinstance T.b_str PyProof.Rows.boot_str (je_ix (je_var 0) je_int)))) (jw_or1 (jt_cmp (o_ne (room65 hr)) (je_dget2 (room1 hr) (je_var 2) (je_ix (je_var 0) je_int) je_int) (je_callB c_len T.b_len PySem.boot_len (ja_cons (je_var 0) ja_nil)) (nomark _))))))) (jss_one (js_ret je_bl)) jss_nil)
    (jss_cons (js_if (jt_cmp (o_eq (room65 hr)) (je_ix (je_var 0) je_int) je_str (nomark _)) (jss_cons (js_set 3 hN (je_ix (je_var 0) je_int))
    (jss_cons (js_set 4 hN (je_and (je_isi T.b_isinstance T.b_tuple PyProof.Rows.boot_tuple (je_var 3)) (je_and (je_cmp (o_eq (room65 hr)) (je_callB c_len T.b_len PySem.boot_len (ja_cons (je_var 3) ja_nil)) je_int (nomark _)) (je_one (je_isi T.b_isinstance T.b_str PyProof.Rows.boot_str (je_ix (je_var 3) je_int))))))
    (jss_cons (js_if (jt_w (jw_and (jt_tru (je_var 4)) (jw_and1 (jt_w (jw_or (jt_cmp (o_ne (room65 hr)) (je_ix (je_var 3) je_int) je_str (nomark _)) (jw_or1 (jt_not (jt_tru (je_call (ok_L_is_number T) (hr.mono (by decide)) T.g_L_is_number T.F_L_is_number.kp (bi_L_is_number T) (let0 nox_def) (ja_cons (je_ix (je_var 3) je_int) (ja_cons je_non ja_nil))))))))))) (jss_one (js_ret je_bl)) jss_nil)
    (jss_one (js_ret (je_and (je_call (ok_L_numbers T) (hr.mono (by decide)) T.g_L_numbers T.F_L_numbers.kp (bi_L_numbers T) (let0 nox_def) (ja_cons (je_ix (je_var 0) je_int) (ja_cons je_int (ja_cons je_int ja_nil)))) (je_and (je_or (je_var 4) (je_one (je_call (ok_L_numbers T) (hr.mono (by decide)) T.g_L_numbers T.F_L_numbers.kp (bi_L_numbers T) (let0 nox_def) (ja_cons (je_var 3) (ja_cons je_int (ja_cons je_int ja_nil)))))) (je_one (je_call (ok_L_is_number T) (hr.mono (by decide)) T.g_L_is_number T.F_L_is_number.kp (bi_L_is_number T) (let0 nox_def) (ja_cons (je_ix (je_var 0) je_int) (ja_cons je_int ja_nil))))))))))) jss_nil)
    (jss_cons (js_if (jt_not (jt_tru (je_call (ok_L_is_number T) (hr.mono (by decide)) T.g_L_is_number T.F_L_is_number.kp (bi_L_is_number T) (let0 nox_def) (ja_cons (je_ix (je_var 0) je_int) (ja_cons je_non ja_nil))))) (jss_one (js_ret je_bl)) jss_nil)
    (jss_cons (js_if (jt_cmp (o_eq (room65 hr)) (je_ix (je_var 0) je_int) je_str (nomark _)) (jss_cons (js_if (jt_w (jw_or (jt_not (jt_tru (je_call (ok_L_numbers T) (hr.mono (by decide)) T.g_L_numbers T.F_L_numbers.kp (bi_L_numbers T) (let0 nox_def) (ja_cons (je_tup (ja_cons (je_ix (je_var 0) je_int) (ja_cons (je_ix (je_var 0) je_int) (ja_cons (je_ix (je_var 0) je_int) ja_nil)))) (ja_cons (je_var 1) (ja_cons je_non ja_nil)))))) (jw_or1 (jt_not (jt_tru (je_call (ok_L_numbers T) (hr.mono (by decide)) T.g_L_numbers T.F_L_numbers.kp (bi_L_numbers T) (let0 nox_def) (ja_cons (je_ix (je_var 0) je_int) (ja_cons (je_var 1) (ja_cons je_non ja_nil))))))))) (jss_one (js_ret je_bl)) jss_nil)
    (jss_one (js_ret (je_and (je_call (ok_L_registers T) (hr.mono (by decide)) T.g_L_registers T.F_L_registers.kp (bi_L_registers T) (let0 nox_def) (ja_cons (je_ix (je_var 0) je_int) (ja_cons (je_var 1) ja_nil))) (je_one (je_call (ok_L_numbers T) (hr.mono (by decide)) T.g_L_numbers T.F_L_numbers.kp (bi_L_numbers T) (let0 nox_def) (ja_cons (je_ix (je_var 0) je_int) (ja_cons je_int (ja_cons je_int ja_nil))))))))) jss_nil)
    (jss_cons (js_if (jt_cmp (o_eq (room65 hr)) (je_ix (je_var 0) je_int) je_str (nomark _)) (jss_one (js_ret (je_and (je_call (ok_L_numbers T) (hr.mono (by decide)) T.g_L_numbers T.F_L_numbers.kp (bi_L_numbers T) (let0 nox_def) (ja_cons (je_sl (je_var 0) (jo_some je_int) (jo_some je_int)) (ja_cons je_non (ja_cons je_non ja_nil)))) (je_and (je_call (ok_L_numbers T) (hr.mono (by decide)) T.g_L_numbers T.F_L_numbers.kp (bi_L_numbers T) (let0 nox_def) (ja_cons (je_sl (je_var 0) (jo_some je_int) (jo_some je_int)) (ja_cons (je_var 1) (ja_cons je_non ja_nil)))) (je_one (je_call (ok_L_numbers T) (hr.mono (by decide)) T.g_L_numbers T.F_L_numbers.kp (bi_L_numbers T) (let0 nox_def) (ja_cons (je_ix (je_var 0) je_int) (ja_cons (je_var 1) (ja_cons je_non ja_nil))))))))) jss_nil)
    (jss_one (js_ret (je_and (je_call (ok_L_is_number T) (hr.mono (by decide)) T.g_L_is_number T.F_L_is_number.kp (bi_L_is_number T) (let0 nox_def) (ja_cons (je_ix (je_var 0) je_int) (ja_cons je_non ja_nil))) (je_one (je_call (ok_L_numbers T) (hr.mono (by decide)) T.g_L_numbers T.F_L_numbers.kp (bi_L_numbers T) (let0 nox_def) (ja_cons (je_sl (je_var 0) (jo_some je_int) (jo_some je_int)) (ja_cons (je_var 1) (ja_cons je_non ja_nil))))))))))))))
theorem sc_law : FnScope ["_law_script", "_law_k", "_law_bag_here", "_law_digests", "_law_value", "_law_turn", "_law_told", "_law_odd"] ["_law_script"] (defScope s_law) := ⟨rfl, rfl, rfl, by decide +kernel, rfl, by decide +kernel, by decide +kernel⟩
theorem bi_law (T : Tx w K mg Cl) : Binds K T.d_law ["_law_script"] [] := T.F_law.binds fun _ _ _ _ _ _ us hl => match us, hl with | [_], _ => rfl
theorem ok_law (T : Tx w K mg Cl) : FnOk P w K mg base CX0 11 T.a_law T.d_law ["_law_script"] (spM K Cl 1 m_law) := by
  refine fn_ok T.F_law sc_law rfl rfl fun cdv A outer s H E hr => ?_
  have hN := (sc_law).nd
  exact (jss_cons (js_for PassesOwn.never rfl (ji_rng1 T.b_range (ja_cons (je_callB (c_max2 rfl) T.b_max PyProof.Rows.boot_max (ja_cons je_int (ja_cons (je_callB (c_min2 rfl) T.b_min PyProof.Rows.boot_min (ja_cons je_int (ja_cons (je_callB c_len T.b_len PySem.boot_len (ja_cons (je_var 0) ja_nil)) ja_nil))) ja_nil))) ja_nil)) (jg_name 1 hN) (jss_cons (js_set 2 hN (je_call (ok_L_bag T) (hr.mono (by decide)) T.g_L_bag T.F_L_bag.kp (bi_L_bag T) (let0 nox_def) (ja_cons (je_var 0) (ja_cons (je_var 1) ja_nil))))
    (jss_cons (js_set 3 hN (je_make T.M_Digests (ok_Digests_init T) (hr.mono (by decide)) T.g_Digests (bi_Digests_init T) (let0 nox_def) (ja_cons (je_ix (je_lst (ja_cons je_int (ja_cons je_int (ja_cons je_int (ja_cons je_int ja_nil))))) (je_call (ok_L_draw T) (hr.mono (by decide)) T.g_L_draw T.F_L_draw.kp (bi_L_draw T) (let0 nox_def) (ja_cons (je_var 2) (ja_cons je_int ja_nil)))) (ja_cons je_non ja_nil))))
    (jss_cons (js_set 4 hN (je_call (ok_L_right T) (hr.mono (by decide)) T.g_L_right T.F_L_right.kp (bi_L_right T) (let0 nox_def) (ja_cons (je_var 2) (ja_cons (je_var 3) ja_nil))))
    (jss_cons (js_for PassesOwn.never rfl (ji_rng1 T.b_range (ja_cons (je_call (ok_L_draw T) (hr.mono (by decide)) T.g_L_draw T.F_L_draw.kp (bi_L_draw T) (let0 nox_def) (ja_cons (je_var 2) (ja_cons je_int ja_nil))) ja_nil)) (jg_name 5 hN) (jss_cons (js_set 7 hN (je_lst (ja_cons je_non (ja_cons je_bl (ja_cons je_bl (ja_cons (je_un u_neg je_int) (ja_cons je_int (ja_cons je_int (ja_cons je_int (ja_cons je_int (ja_cons je_int (ja_cons je_int (ja_cons je_int (ja_cons je_int (ja_cons (je_op o_sub (je_op o_pow je_int je_int) je_int) (ja_cons je_str (ja_cons je_str (ja_cons je_str (ja_cons je_str (ja_cons je_str ja_nil))))))))))))))))))))
    (jss_cons (js_set 7 hN (je_op o_add (je_var 7) (je_lst (ja_cons (je_tup ja_nil) (ja_cons (je_tup (ja_cons je_int ja_nil)) (ja_cons (je_tup (ja_cons je_int ja_nil)) (ja_cons (je_lst (ja_cons je_int ja_nil)) (ja_cons (je_tup (ja_cons je_str (ja_cons je_int ja_nil))) (ja_cons (je_op o_mulR (je_tup (ja_cons je_int ja_nil)) je_int) ja_nil)))))))))
    (jss_one (js_set 4 hN (je_call (ok_L_spoilt T 8) (hr.mono (by decide)) T.g_L_spoilt T.F_L_spoilt.kp (bi_L_spoilt T) (let0 (nox_L_spoilt 8)) (ja_cons (je_var 2) (ja_cons (je_var 4) (ja_cons (je_ix (je_var 7) (je_call (ok_L_draw T) (hr.mono (by decide)) T.g_L_draw T.F_L_draw.kp (bi_L_draw T) (let0 nox_def) (ja_cons (je_var 2) (ja_cons je_int ja_nil)))) ja_nil)))))))))
    (jss_cons (js_set 6 hN (je_call (ok_is_letter T) (hr.mono (by decide)) T.g_is_letter T.F_is_letter.kp (bi_is_letter T) (let0 nox_def) (ja_cons (je_var 3) (ja_cons (je_var 4) ja_nil))))
    (jss_one (js_if (jt_w (jw_or (jt_not (jt_tru (je_isi T.b_isinstance T.b_bool PyProof.Rows.boot_bool (je_var 6)))) (jw_or1 (jt_cmp (o_ne (room65 hr)) (je_var 6) (je_call (ok_L_due T) (hr.mono (by decide)) T.g_L_due T.F_L_due.kp (bi_L_due T) (let0 nox_def) (ja_cons (je_var 4) (ja_cons (je_op o_sub (je_meth0 T.k_Digests T.m_Digests_modulus (ok_Digests_modulus T) (hr.mono (by decide)) (bi_Digests_modulus T) (let0 nox_def) (je_var 3)) je_int) ja_nil))) (nomark _))))) (jss_one (js_ret je_bl)) jss_nil))))))))
    (jss_one (js_ret je_bl)))
end

end Gn
namespace Gn
open PySem L2 Mi
/-! ### the bag -/
def Bag3 (st : Sto) (i : Nat) : Prop := ∃ a b c : Int, st[i]? = some (.lst [.int a, .int b, .int c])
structure D3 (i : Nat) (st st' : Sto) : Prop where
  o : Only [i] st st'
  b : Bag3 st' i
theorem D3.refl {i : Nat} {st : Sto} (h : Bag3 st i) : D3 i st st := ⟨Only.refl _ _, h⟩
theorem D3.trans {i : Nat} {a b c : Sto} (h : D3 i a b) (k : D3 i b c) : D3 i a c := ⟨h.o.trans k.o (by intro j hj _; exact hj), k.b⟩
theorem D3.rd {i : Nat} {st st' : Sto} (h : D3 i st st') {k : Nat} {o : Ob} (e : st[k]? = some o) (n : k ≠ i) : st'[k]? = some o := h.o.rd e (by simpa using n)
theorem D3.set {i : Nat} {st : Sto} (hi : i < st.length) (a b c : Int) : D3 i st (st.set i (.lst [.int a, .int b, .int c])) := ⟨Only.set (A := [i]) (by simp), a, b, c, by simp [hi]⟩
theorem at30 {a b c : W} : atI [a, b, c] 0 = some a := rfl
theorem at31 {a b c : W} : atI [a, b, c] 1 = some b := rfl
theorem at32 {a b c : W} : atI [a, b, c] 2 = some c := rfl
theorem ix30 : ixN 3 0 = some 0 := rfl
theorem ix31 : ixN 3 1 = some 1 := rfl
theorem t_bag (ns : List Int) (k : Nat) (st : Sto) (hl : ns.length ≤ 63) : ∃ st', m_L_bag [.xst (ns.map W.int), .int (k : Int)] st = .ok (.ref st.length) st' ∧ Bag3 st' st.length ∧ Only [] st st' := by
  have p10 : (10 : Int) ^ (18 : Nat) = 1000000000000000000 := by decide
  have hz : ns.length ≤ 16777216 := by omega
  by_cases hk : k < ns.length
  · have hk' : (k : Int) < (ns.length : Int) := by omega
    have hat : atI (ns.map W.int) (k : Int) = some (.int ns[k]) := atI_nn (by omega) (by simp [hk])
    by_cases hc : 1000000000000000000 ≤ ns[k]
    · refine ⟨st ++ [.lst [.int ns[k], .int ns[k], .int k]], ?_, ⟨_, _, _, by simp; exact ⟨rfl, rfl, rfl⟩⟩, Only.app _ _ _⟩
      simp only [m_L_bag, b_L_bag]
      simp [hk', hat, hc, sizeLine_eq, hz]
    · refine ⟨st ++ [.lst [.int 0, .int ns[k], .int k]], ?_, ⟨_, _, _, by simp; exact ⟨rfl, rfl, rfl⟩⟩, Only.app _ _ _⟩
      simp only [m_L_bag, b_L_bag]
      simp [hk', hat, hc, sizeLine_eq, hz]
  · have hk' : ¬ (k : Int) < (ns.length : Int) := by omega
    refine ⟨st ++ [.lst [.int 0, .int 0, .int k]], ?_, ⟨_, _, _, by simp; exact ⟨rfl, rfl, rfl⟩⟩, Only.app _ _ _⟩
    simp only [m_L_bag, b_L_bag]
    simp [hk', sizeLine_eq, hz]
theorem t_draw (st : Sto) (i : Nat) (m : Int) (h : Bag3 st i) (h0 : 0 < m) (h1 : m < 18446744073709551616) :
    ∃ (r : Int) (st' : Sto), m_L_draw [.ref i, .int m] st = .ok (.int r) st' ∧ D3 i st st' ∧ 0 ≤ r ∧ r < m := by
  suffices hh : (m_L_draw [.ref i, .int m] st).post fun w st' => ∃ r : Int, w = .int r ∧ D3 i st st' ∧ 0 ≤ r ∧ r < m by
    obtain ⟨w, st', e, r, rfl, h1⟩ := hh.get
    exact ⟨r, st', e, h1⟩
  obtain ⟨a, b, c, h⟩ := h
  obtain ⟨hi, hg⟩ := List.getElem?_eq_some_iff.mp h
  have hs := lg h0 h1
  have q1 : ∀ x : Int, 0 ≤ x % m := fun x => Int.emod_nonneg _ (by omega)
  have q2 : ∀ x : Int, x % m < m := fun x => Int.emod_lt_of_pos _ h0
  have fin : ∀ x y z : Int, D3 i st (st.set i (.lst [.int x, .int y, .int z])) := fun x y z => D3.set hi x y z
  have h1m : ¬ m < 1 := by omega
  by_cases hz : a = 0
  · subst hz
    have hm2 : ((b * 48271 + c * 69621 + 11) % 2147483647).natAbs < 18446744073709551616 := by omega
    simp only [m_L_draw, b_L_draw]
    simp [hg, hi, at30, at31, at32, ix30, ix31, hm2, h1m, h0, hs, q1, q2, fin]
  · simp only [m_L_draw, b_L_draw]
    simp [hg, hi, at30, at31, at32, ix30, ix31, h1m, h0, hs, hz, q1, q2, fin]
/-! ### values of letters -/
def six : List Str := ["ask", "claim", "halve", "prove", "answer", "x"]
def Lv (K : Nat) : Nat → W → Prop
  | _, .int _ => True
  | _, .bl _ => True
  | _, .non => True
  | _, .lst _ => True
  | _, .str z => z ∈ six
  | n + 1, .tup xs => xs.length ≤ K ∧ ∀ x ∈ xs, Lv K n x
  | _, _ => False
theorem Lv.mono {K K' : Nat} (hK : K ≤ K') : ∀ {n n' : Nat} {w : W}, n ≤ n' → Lv K n w → Lv K' n' w := by
  intro n
  induction n with
  | zero =>
    intro n' w _ h
    cases w with
    | tup xs => cases h
    | ref i => cases h
    | xst xs => cases h
    | _ => cases n' <;> first | trivial | exact h
  | succ n ih =>
    intro n' w hn h
    obtain ⟨m, rfl⟩ : ∃ m, n' = m + 1 := ⟨n' - 1, by omega⟩
    cases w with
    | tup xs => exact ⟨Nat.le_trans h.1 hK, fun x hx => ih (by omega) (h.2 x hx)⟩
    | ref i => cases h
    | xst xs => cases h
    | _ => first | trivial | exact h
/-! ### parts of rows -/
theorem cutTt (xs : List W) (h : Nat) : cutW xs none (some (h : Int)) = xs.take h := by
  have z := HT.sIx_nat xs.length xs.length h
  have z0 : HT.sIx xs.length 0 none = 0 := rfl
  unfold cutW
  rw [z, z0, List.drop_zero, Nat.sub_zero]
  by_cases hh : h ≤ xs.length
  · rw [Nat.min_eq_left hh]
  · rw [Nat.min_eq_right (by omega), List.take_length, List.take_of_length_le (by omega)]
theorem cutDd (xs : List W) (h : Nat) : cutW xs (some (h : Int)) none = xs.drop h := by
  have z := HT.sIx_nat xs.length 0 h
  have z0 : HT.sIx xs.length xs.length none = xs.length := rfl
  unfold cutW
  rw [z, z0]
  by_cases hh : h ≤ xs.length
  · rw [Nat.min_eq_left hh]
    exact List.take_of_length_le (by simp)
  · rw [Nat.min_eq_right (by omega), Nat.sub_self, List.take_zero, List.drop_of_length_le (by omega)]
theorem cutMm (xs : List W) (h k : Nat) : cutW xs (some (h : Int)) (some (k : Int)) = (xs.drop h).take (k - h) := by
  have z := HT.sIx_nat xs.length 0 h
  have z1 := HT.sIx_nat xs.length xs.length k
  unfold cutW
  rw [z, z1]
  by_cases hh : h ≤ xs.length
  · rw [Nat.min_eq_left hh]
    by_cases hk : k ≤ xs.length
    · rw [Nat.min_eq_left hk]
    · rw [Nat.min_eq_right (by omega), List.take_of_length_le (by simp), List.take_of_length_le (by simp; omega)]
  · have e1 : xs.drop h = [] := List.drop_of_length_le (by omega)
    have e2 : xs.drop (min h xs.length) = [] := List.drop_of_length_le (by omega)
    rw [e1, e2, List.take_nil, List.take_nil]
end Gn

namespace Gn
open PySem L2 Mi
theorem lt8 {r : Int} (h0 : 0 ≤ r) (h1 : r < 8) : r = 0 ∨ r = 1 ∨ r = 2 ∨ r = 3 ∨ ((r = 4 ∨ r = 5 ∨ r = 6 ∨ r = 7)) := by omega
theorem t_spoilt {K : Nat} (hK : K ≤ 1000) (i : Nat) (odd : W) (ho : Lv K 1 odd) : ∀ (f n : Nat) (w : W) (st : Sto), n < f → Lv K n w → Bag3 st i → ∃ w' st', m_L_spoilt f [.ref i, w, odd] st = .ok w' st' ∧ D3 i st st' ∧ Lv (K + 1) (n + 1) w' := by
  intro f
  induction f with
  | zero => intro n w st h; omega
  | succ f ih =>
    intro n w st hf hw hb
    have odd' : Lv (K + 1) (n + 1) odd := Lv.mono (by omega) (by omega) ho
    have quit : ∀ st', b_L_spoilt (m_L_spoilt f) [some (.ref i), some w, some odd, none, none] st = .rt odd st' → D3 i st st' → ∃ w' st', m_L_spoilt (f + 1) [.ref i, w, odd] st = .ok w' st' ∧ D3 i st st' ∧ Lv (K + 1) (n + 1) w' := fun st' e k => ⟨odd, st', def_rt rfl e, k, odd'⟩
    cases w with
    | int x => exact quit st (seq_rt (by simp)) (D3.refl hb)
    | bl x => exact quit st (seq_rt (by simp)) (D3.refl hb)
    | non => exact quit st (seq_rt (by simp)) (D3.refl hb)
    | str x => exact quit st (seq_rt (by simp)) (D3.refl hb)
    | lst x => exact quit st (seq_rt (by simp)) (D3.refl hb)
    | ref x => cases n <;> cases hw
    | xst x => cases n <;> cases hw
    | tup xs =>
      cases n with
      | zero => cases hw
      | succ n =>
        obtain ⟨hl, hx⟩ := hw
        have hz : xs.length ≤ 16777216 := by omega
        by_cases h0 : xs = []
        · subst h0
          exact quit st (seq_rt (by simp [sizeLine_eq])) (D3.refl hb)
        have hpos : 0 < xs.length := List.length_pos_iff.mpr h0
        have hn0 : ¬ ((xs.length : Int) = 0) := by omega
        obtain ⟨q, s1, e1, k1, q0, q1⟩ := t_draw st i 5 hb (by omega) (by omega)
        by_cases hq : q = 0
        · subst hq
          exact quit s1 (seq_rt (by simp [-mEq, mEq_ii, hn0, h0, sizeLine_eq, hz, e1])) k1
        obtain ⟨p, s2, e2, k2, p0, p1⟩ := t_draw s1 i (xs.length : Int) k1.b (by omega) (by omega)
        obtain ⟨p, rfl⟩ : ∃ n : Nat, p = (n : Int) := ⟨p.toNat, by omega⟩
        have hp : p < xs.length := by omega
        obtain ⟨c, s3, e3, k3, c0, c1⟩ := t_draw s2 i 8 k2.b (by omega) (by omega)
        have k13 := (k1.trans k2).trans k3
        have u1 := cutTt xs p
        have u2 := cutDd xs (p + 1)
        have u3 := cutDd xs p
        have u4 := cutMm xs p (p + 1)
        have u5 := cutMm xs (p + 1) (p + 2)
        have u6 := cutDd xs (p + 2)
        have a1 : ((p + 1 : Nat) : Int) = (p : Int) + 1 := by omega
        have a2 : ((p + 2 : Nat) : Int) = (p : Int) + 2 := by omega
        rw [a1] at u2 u4 u5
        rw [a2] at u5 u6
        have z1 : (xs.take p).length ≤ 1000 := by simp; omega
        have z2 : (xs.drop (p + 1)).length ≤ 1000 := by simp; omega
        have z3 : (xs.drop p).length ≤ 1000 := by simp; omega
        have z4 : ((xs.drop p).take (p + 1 - p)).length ≤ 1000 := by simp; omega
        have z5 : ((xs.drop (p + 1)).take (p + 2 - (p + 1))).length ≤ 1000 := by simp; omega
        have z6 : (xs.drop (p + 2)).length ≤ 1000 := by simp; omega
        have old : ∀ x ∈ xs, Lv (K + 1) (n + 1) x := fun x h => Lv.mono (by omega) (by omega) (hx x h)
        have oddn : Lv (K + 1) (n + 1) odd := Lv.mono (by omega) (by omega) ho
        have m1 : ∀ x ∈ xs.take p, x ∈ xs := fun x h => List.mem_of_mem_take h
        have m2 : ∀ x ∈ xs.drop (p + 1), x ∈ xs := fun x h => List.mem_of_mem_drop h
        have m3 : ∀ x ∈ xs.drop p, x ∈ xs := fun x h => List.mem_of_mem_drop h
        have m4 : ∀ x ∈ (xs.drop p).take (p + 1 - p), x ∈ xs := fun x h => List.mem_of_mem_drop (List.mem_of_mem_take h)
        have m5 : ∀ x ∈ (xs.drop (p + 1)).take (p + 2 - (p + 1)), x ∈ xs := fun x h => List.mem_of_mem_drop (List.mem_of_mem_take h)
        have m6 : ∀ x ∈ xs.drop (p + 2), x ∈ xs := fun x h => List.mem_of_mem_drop h
        have l1 : (xs.take p).length = p := by simp; omega
        have l2 : (xs.drop (p + 1)).length = xs.length - (p + 1) := by simp
        have l3 : (xs.drop p).length = xs.length - p := by simp
        have l4 : ((xs.drop p).take (p + 1 - p)).length = 1 := by simp; omega
        have l5 : ((xs.drop (p + 1)).take (p + 2 - (p + 1))).length = min 1 (xs.length - (p + 1)) := by simp
        have l6 : (xs.drop (p + 2)).length = xs.length - (p + 2) := by simp
        have pre : ∀ (r : SO), (mSeq (mIfS (mTest (mOp mEq (mVar 4) (mC (W.int 0)))) (mRet (mOp mAdd (mSl (mVar 1) mNoPart (mPart (mVar 3))) (mSl (mVar 1) (mPart (mOp mAdd (mVar 3) (mC (W.int 1)))) mNoPart))) mSkip)
            (mSeq (mIfS (mTest (mOp mEq (mVar 4) (mC (W.int 1)))) (mRet (mOp mAdd (mOp mAdd (mSl (mVar 1) mNoPart (mPart (mVar 3))) (mTup (mCons (mVar 2) mNil))) (mSl (mVar 1) (mPart (mVar 3)) mNoPart))) mSkip)
            (mSeq (mIfS (mTest (mOp mEq (mVar 4) (mC (W.int 2)))) (mRet (mOp mAdd (mOp mAdd (mSl (mVar 1) mNoPart (mPart (mVar 3))) (mSl (mVar 1) (mPart (mVar 3)) (mPart (mOp mAdd (mVar 3) (mC (W.int 1)))))) (mSl (mVar 1) (mPart (mVar 3)) mNoPart))) mSkip)
            (mSeq (mIfS (mTest (mOp mEq (mVar 4) (mC (W.int 3)))) (mRet (mOp mAdd (mOp mAdd (mOp mAdd (mSl (mVar 1) mNoPart (mPart (mVar 3))) (mSl (mVar 1) (mPart (mOp mAdd (mVar 3) (mC (W.int 1)))) (mPart (mOp mAdd (mVar 3) (mC (W.int 2)))))) (mSl (mVar 1) (mPart (mVar 3)) (mPart (mOp mAdd (mVar 3) (mC (W.int 1)))))) (mSl (mVar 1) (mPart (mOp mAdd (mVar 3) (mC (W.int 2)))) mNoPart))) mSkip)
            (mRet (mOp mAdd (mOp mAdd (mSl (mVar 1) mNoPart (mPart (mVar 3))) (mTup (mCons (mCall 3 (m_L_spoilt f) (mCons (mVar 0) (mCons (mOp mIx (mVar 1) (mVar 3)) (mCons (mVar 2) mNil)))) mNil))) (mSl (mVar 1) (mPart (mOp mAdd (mVar 3) (mC (W.int 1)))) mNoPart))))))) [some (.ref i), some (.tup xs), some odd, some (.int (p : Int)), some (.int c)] s3 = r →
            b_L_spoilt (m_L_spoilt f) [some (.ref i), some (.tup xs), some odd, none, none] st = r := by
          intro r h
          unfold b_L_spoilt
          refine seq_nx (s1 := [some (.ref i), some (.tup xs), some odd, none, none]) (st1 := s1) (by simp [-mEq, mEq_ii, hn0, h0, sizeLine_eq, hz, e1, hq]) ?_
          refine seq_nx (s1 := [some (.ref i), some (.tup xs), some odd, some (.int (p : Int)), none]) (st1 := s2) (by simp [sizeLine_eq, hz, e2]) ?_
          refine seq_nx (s1 := [some (.ref i), some (.tup xs), some odd, some (.int (p : Int)), some (.int c)]) (st1 := s3) (by simp [e3]) ?_
          exact h
        have done : ∀ (ys : List W) (st' : Sto), b_L_spoilt (m_L_spoilt f) [some (.ref i), some (.tup xs), some odd, none, none] st = .rt (.tup ys) st' → D3 i st st' → ys.length ≤ K + 1 → (∀ y ∈ ys, Lv (K + 1) (n + 1) y) →
            ∃ w' st', m_L_spoilt (f + 1) [.ref i, .tup xs, odd] st = .ok w' st' ∧ D3 i st st' ∧ Lv (K + 1) (n + 1 + 1) w' := fun ys st' e k h1 h2 => ⟨.tup ys, st', def_rt rfl e, k, h1, h2⟩
        rcases lt8 c0 c1 with rfl | rfl | rfl | rfl | hc
        · refine done (xs.take p ++ xs.drop (p + 1)) s3 (pre _ ?_) k13 (by rw [List.length_append, l1, l2]; omega) (fun y hy => (List.mem_append.mp hy).elim (fun h => old y (m1 y h)) fun h => old y (m2 y h))
          generalize xs.take p = A1 at *
          generalize xs.drop (p + 1) = A2 at *
          exact seq_rt (by simp [u1, u2, sizeLine_eq, show A1.length + A2.length ≤ 16777216 by omega])
        · refine done (xs.take p ++ [odd] ++ xs.drop p) s3 (pre _ ?_) k13 (by rw [List.length_append, List.length_append, l1, l3]; simp; omega) (fun y hy => ?_)
          · generalize xs.take p = A1 at *
            generalize xs.drop p = A2 at *
            refine seq_nx (by simp [-mEq, mEq_ii]; exact ⟨rfl, rfl⟩) ?_
            exact seq_rt (by simp [u1, u3, sizeLine_eq, show A1.length + 1 ≤ 16777216 by omega, show A1.length + 1 + A2.length ≤ 16777216 by omega])
          · simp only [List.mem_append, List.mem_singleton] at hy
            rcases hy with (h | rfl) | h
            · exact old y (m1 y h)
            · exact oddn
            · exact old y (m3 y h)
        · refine done (xs.take p ++ (xs.drop p).take (p + 1 - p) ++ xs.drop p) s3 (pre _ ?_) k13 (by rw [List.length_append, List.length_append, l1, l3, l4]; omega) (fun y hy => ?_)
          · generalize (xs.drop p).take (p + 1 - p) = A3 at *
            generalize xs.take p = A1 at *
            generalize xs.drop p = A2 at *
            refine seq_nx (by simp [-mEq, mEq_ii]; exact ⟨rfl, rfl⟩) ?_
            refine seq_nx (by simp [-mEq, mEq_ii]; exact ⟨rfl, rfl⟩) ?_
            exact seq_rt (by simp [u1, u3, u4, sizeLine_eq, show A1.length + A3.length ≤ 16777216 by omega, show A1.length + A3.length + A2.length ≤ 16777216 by omega])
          · simp only [List.mem_append] at hy
            rcases hy with (h | h) | h
            · exact old y (m1 y h)
            · exact old y (m4 y h)
            · exact old y (m3 y h)
        · refine done (xs.take p ++ (xs.drop (p + 1)).take (p + 2 - (p + 1)) ++ (xs.drop p).take (p + 1 - p) ++ xs.drop (p + 2)) s3 (pre _ ?_) k13 (by rw [List.length_append, List.length_append, List.length_append, l1, l4, l5, l6]; omega) (fun y hy => ?_)
          · generalize (xs.drop p).take (p + 1 - p) = A3 at *
            generalize (xs.drop (p + 1)).take (p + 2 - (p + 1)) = A4 at *
            generalize xs.take p = A1 at *
            generalize xs.drop (p + 2) = A2 at *
            refine seq_nx (by simp [-mEq, mEq_ii]; exact ⟨rfl, rfl⟩) ?_
            refine seq_nx (by simp [-mEq, mEq_ii]; exact ⟨rfl, rfl⟩) ?_
            refine seq_nx (by simp [-mEq, mEq_ii]; exact ⟨rfl, rfl⟩) ?_
            exact seq_rt (by simp [u1, u4, u5, u6, sizeLine_eq, show A1.length + A4.length ≤ 16777216 by omega, show A1.length + A4.length + A3.length ≤ 16777216 by omega, show A1.length + A4.length + A3.length + A2.length ≤ 16777216 by omega, show A1.length + (A4.length + A3.length) + A2.length ≤ 16777216 by omega])
          · simp only [List.mem_append] at hy
            rcases hy with ((h | h) | h) | h
            · exact old y (m1 y h)
            · exact old y (m5 y h)
            · exact old y (m4 y h)
            · exact old y (m6 y h)
        · obtain ⟨w', s4, e4, k4, hw'⟩ := ih n xs[p] s3 (by omega) (hx _ (List.getElem_mem hp)) k13.b
          have atp : atI xs (p : Int) = some xs[p] := atI_nn (by omega) (by simp [hp])
          refine done (xs.take p ++ [w'] ++ xs.drop (p + 1)) s4 (pre _ ?_) (k13.trans k4) (by rw [List.length_append, List.length_append, l1, l2]; simp; omega) (fun y hy => ?_)
          · generalize xs.take p = A1 at *
            generalize xs.drop (p + 1) = A2 at *
            generalize xs[p] = XP at *
            have n0 : ¬ c = 0 ∧ ¬ c = 1 ∧ ¬ c = 2 ∧ ¬ c = 3 := by omega
            refine seq_nx (by simp [-mEq, mEq_ii, n0.1]; exact ⟨rfl, rfl⟩) ?_
            refine seq_nx (by simp [-mEq, mEq_ii, n0.2.1]; exact ⟨rfl, rfl⟩) ?_
            refine seq_nx (by simp [-mEq, mEq_ii, n0.2.2.1]; exact ⟨rfl, rfl⟩) ?_
            refine seq_nx (by simp [-mEq, mEq_ii, n0.2.2.2]; exact ⟨rfl, rfl⟩) ?_
            simp [u1, u2, atp, e4, sizeLine_eq, show A1.length + 1 ≤ 16777216 by omega, show A1.length + 1 + A2.length ≤ 16777216 by omega]
          · simp only [List.mem_append, List.mem_singleton] at hy
            rcases hy with (h | rfl) | h
            · exact old y (m1 y h)
            · exact hw'
            · exact old y (m2 y h)
end Gn

namespace Gn
open PySem L2 Mi
theorem Lv.int {K n : Nat} {i : Int} : Lv K n (.int i) := by cases n <;> trivial
theorem Lv.str {K n : Nat} {z : Str} (h : z ∈ six) : Lv K n (.str z) := by cases n <;> exact h
theorem Lv.non {K n : Nat} : Lv K n .non := by cases n <;> trivial
theorem Lv.rep {K n k : Nat} {i : Int} (h : k ≤ K) : Lv K (n + 1) (.tup (List.replicate k (.int i))) := ⟨by simpa using h, fun x hx => by rw [List.eq_of_mem_replicate hx]; exact Lv.int⟩
theorem flat1 {α : Type} (x : α) (k : Nat) : (List.replicate k [x]).flatten = List.replicate k x := by
  induction k with
  | zero => rfl
  | succ k ih => rw [List.replicate_succ, List.flatten_cons, ih]; rfl
def DigW (m : Int) (st : Sto) (j : Nat) : Prop := ∃ b : Int, st[j]? = some (.ins 0 [("_bits", .int b), ("_modulus", .int m), ("_book", .non)])
theorem pick4 {α : Type} (a b c d : W) {q : Int} (h0 : 0 ≤ q) (h1 : q < 4) : ∃ v, atI [a, b, c, d] q = some v ∧ (v = a ∨ v = b ∨ v = c ∨ v = d) := by
  have : q = 0 ∨ q = 1 ∨ q = 2 ∨ q = 3 := by omega
  rcases this with rfl | rfl | rfl | rfl
  · exact ⟨a, rfl, .inl rfl⟩
  · exact ⟨b, rfl, .inr (.inl rfl)⟩
  · exact ⟨c, rfl, .inr (.inr (.inl rfl))⟩
  · exact ⟨d, rfl, .inr (.inr (.inr rfl))⟩
theorem picki (a b c : Int) {q : Int} (h0 : 0 ≤ q) (h1 : q < 3) : ∃ v, atI [W.int a, .int b, .int c] q = some (.int v) ∧ (v = a ∨ v = b ∨ v = c) := by
  have : q = 0 ∨ q = 1 ∨ q = 2 := by omega
  rcases this with rfl | rfl | rfl
  · exact ⟨a, rfl, .inl rfl⟩
  · exact ⟨b, rfl, .inr (.inl rfl)⟩
  · exact ⟨c, rfl, .inr (.inr rfl)⟩
theorem t_right {m : Int} {st : Sto} {i j : Nat} (hb : Bag3 st i) (hj : DigW m st j) (hij : j ≠ i) : ∃ w st', m_L_right [.ref i, .ref j] st = .ok w st' ∧ D3 i st st' ∧ Lv 300 3 w := by
  obtain ⟨bits, hj⟩ := hj
  have em : m_Digests_modulus [.ref j] st = .ok (.int m) st := by
    simp only [m_Digests_modulus, b_Digests_modulus]
    simp [hj]
  obtain ⟨q1, s1, e1, k1, a0, a1⟩ := t_draw st i 4 hb (by omega) (by omega)
  obtain ⟨n, hn⟩ : ∃ n : Int, atI [W.int 0, .int 1, .int 7, .int 1000000000] q1 = some (.int n) := by
    have : q1 = 0 ∨ q1 = 1 ∨ q1 = 2 ∨ q1 = 3 := by omega
    rcases this with rfl | rfl | rfl | rfl <;> exact ⟨_, rfl⟩
  obtain ⟨q2, s2, e2, k2, b0, b1⟩ := t_draw s1 i 3 k1.b (by omega) (by omega)
  obtain ⟨d, hd, -⟩ := picki 0 1 (m - 1) b0 b1
  obtain ⟨q3, s3, e3, k3, c0, c1⟩ := t_draw s2 i 9 k2.b (by omega) (by omega)
  obtain ⟨p, rfl⟩ : ∃ p : Nat, q3 = (p : Int) := ⟨q3.toNat, by omega⟩
  obtain ⟨q4, s4, e4, k4, d0, d1⟩ := t_draw s3 i 3 k3.b (by omega) (by omega)
  obtain ⟨rr, hr, hr'⟩ := picki 0 1 16 d0 d1
  obtain ⟨r, rfl⟩ : ∃ r : Nat, rr = (r : Int) := ⟨rr.toNat, by omega⟩
  obtain ⟨kd, s5, e5, k5, f0, f1⟩ := t_draw s4 i 5 k4.b (by omega) (by omega)
  have k15 := (((k1.trans k2).trans k3).trans k4).trans k5
  have p10 : (10 : Int) ^ (9 : Nat) = 1000000000 := by decide
  have hp9 : (p : Int) ≤ 1000 := by omega
  have hr9 : (r : Int) ≤ 1000 := by omega
  have pre : ∀ (F : SO), (mSeq (mIfS (mTest (mOp mEq (mVar 7) (mC (W.int 0)))) (mSeq (mAsg (mOp mIx (mLst (mCons (mVar 6) (mCons (mTup (mCons (mC (W.str "answer")) (mCons (mVar 3) mNil))) (mCons (mTup mNil) (mCons (mTup (mCons (mC (W.int 3)) (mCons (mC (W.int 4)) mNil))) mNil))))) (mCall 2 m_L_draw (mCons (mVar 0) (mCons (mC (W.int 4)) mNil)))) (mGN 8))
      (mRet (mTup (mCons (mC (W.str "ask")) (mCons (mOp mMulR (mTup (mCons (mC (W.int 1024)) mNil)) (mOp mIx (mLst (mCons (mC (W.int 0)) (mCons (mC (W.int 1)) (mCons (mC (W.int 239)) mNil)))) (mCall 2 m_L_draw (mCons (mVar 0) (mCons (mC (W.int 3)) mNil))))) (mCons (mVar 8) (mCons (mCall 2 m_L_draw (mCons (mVar 0) (mCons (mC (W.int 9)) mNil))) mNil))))))) mSkip)
      (mSeq (mIfS (mTest (mOp mEq (mVar 7) (mC (W.int 1)))) (mSeq (mAsg (mTup (mCons (mCall 2 m_L_draw (mCons (mVar 0) (mCons (mC (W.int 256)) mNil))) (mCons (mC (W.int 65535)) (mCons (mC (W.int 0)) (mCons (mCall 2 m_L_draw (mCons (mVar 0) (mCons (mC (W.int 7)) mNil))) (mCons (mVar 4) (mCons (mCall 2 m_L_draw (mCons (mVar 0) (mCons (mC (W.int 17)) mNil))) mNil))))))) (mGN 9))
      (mRet (mTup (mCons (mC (W.str "claim")) (mCons (mVar 3) (mCons (mVar 4) (mCons (mVar 2) (mCons (mVar 5) (mCons (mVar 9) (mCons (mC (W.int 0)) (mCons (mVar 6) mNil))))))))))) mSkip)
      (mSeq (mIfS (mTest (mOp mEq (mVar 7) (mC (W.int 2)))) (mRet (mTup (mCons (mC (W.str "halve")) (mCons (mVar 3) (mCons (mCall 2 m_L_draw (mCons (mVar 0) (mCons (mC (W.int 9)) mNil))) (mCons (mVar 3) (mCons (mC (W.int 5)) (mCons (mVar 4) (mCons (mVar 2) (mCons (mC (W.int 0)) (mCons (mVar 4) (mCons (mC (W.int 1)) (mCons (mVar 5) mNil))))))))))))) mSkip)
      (mRet (mTup (mCons (mC (W.str "prove")) (mCons (mVar 3) (mCons (mVar 3) (mCons (mVar 2) (mCons (mVar 4) (mCons (mVar 2) (mCons (mOp mIx (mLst (mCons (mC W.non) (mCons (mTup mNil) (mCons (mC (W.str "x")) (mCons (mTup (mCons (mTup (mCons (mC (W.int 0)) (mCons (mC (W.int 0)) (mCons (mC (W.int 0)) (mCons (mC (W.int 0)) (mCons (mC (W.int 7)) (mCons (mC (W.int 0)) mNil))))))) (mCons (mC (W.int 0)) (mCons (mTup mNil) mNil)))) mNil))))) (mCall 2 m_L_draw (mCons (mVar 0) (mCons (mC (W.int 4)) mNil)))) mNil))))))))))))
      [some (.ref i), some (.ref j), some (.int (m - 1)), some (.int n), some (.int d), some (.tup (List.replicate p (.int d))), some (.tup (List.replicate r (.int 65535))), some (.int kd), none, none] s5 = F →
      b_L_right [some (.ref i), some (.ref j), none, none, none, none, none, none, none, none] st = F := by
    intro F hF
    unfold b_L_right
    refine seq_nx (s1 := [some (.ref i), some (.ref j), some (.int (m - 1)), none, none, none, none, none, none, none]) (st1 := st) (by simp [hj, em]) ?_
    refine seq_nx (s1 := [some (.ref i), some (.ref j), some (.int (m - 1)), some (.int n), none, none, none, none, none, none]) (st1 := s1) (by simp [sizeLine_eq, e1, hn]) ?_
    refine seq_nx (s1 := [some (.ref i), some (.ref j), some (.int (m - 1)), some (.int n), some (.int d), none, none, none, none, none]) (st1 := s2) (by simp [sizeLine_eq, e2, hd]) ?_
    refine seq_nx (s1 := [some (.ref i), some (.ref j), some (.int (m - 1)), some (.int n), some (.int d), some (.tup (List.replicate p (.int d))), none, none, none, none]) (st1 := s3) (by simp [sizeLine_eq, e3, hp9, flat1]) ?_
    refine seq_nx (s1 := [some (.ref i), some (.ref j), some (.int (m - 1)), some (.int n), some (.int d), some (.tup (List.replicate p (.int d))), some (.tup (List.replicate r (.int 65535))), none, none, none]) (st1 := s4) (by simp [sizeLine_eq, e4, hr, hr9, flat1]) ?_
    refine seq_nx (s1 := [some (.ref i), some (.ref j), some (.int (m - 1)), some (.int n), some (.int d), some (.tup (List.replicate p (.int d))), some (.tup (List.replicate r (.int 65535))), some (.int kd), none, none]) (st1 := s5) (by simp [e5]) ?_
    exact hF
  have hpL : ∀ n, Lv 300 (n + 1) (.tup (List.replicate p (.int d))) := fun n => Lv.rep (by omega)
  have hrL : ∀ n, Lv 300 (n + 1) (.tup (List.replicate r (.int 65535))) := fun n => Lv.rep (by omega)
  generalize (List.replicate p (W.int d)) = P at *
  generalize (List.replicate r (W.int 65535)) = R at *
  have fin : ∀ (xs : List W) (st' : Sto), b_L_right [some (.ref i), some (.ref j), none, none, none, none, none, none, none, none] st = .rt (.tup xs) st' → D3 i s5 st' → xs.length ≤ 300 → (∀ x ∈ xs, Lv 300 2 x) → ∃ w st', m_L_right [.ref i, .ref j] st = .ok w st' ∧ D3 i st st' ∧ Lv 300 3 w :=
    fun xs st' e k h1 h2 => ⟨.tup xs, st', def_rt rfl e, k15.trans k, h1, h2⟩
  have cases5 : kd = 0 ∨ kd = 1 ∨ kd = 2 ∨ (¬ kd = 0 ∧ ¬ kd = 1 ∧ ¬ kd = 2) := by omega
  rcases cases5 with rfl | rfl | rfl | ⟨n0, n1, n2⟩
  · obtain ⟨q6, s6, e6, k6, g0, g1⟩ := t_draw s5 i 4 k5.b (by omega) (by omega)
    obtain ⟨q7, s7, e7, k7, h0, h1⟩ := t_draw s6 i 3 k6.b (by omega) (by omega)
    obtain ⟨q8, s8, e8, k8, i0, i1⟩ := t_draw s7 i 9 k7.b (by omega) (by omega)
    obtain ⟨v, hv, hv'⟩ := pick4 (α := Unit) (.tup R) (.tup [.str "answer", .int n]) (.tup []) (.tup [.int 3, .int 4]) g0 g1
    obtain ⟨tt, ht, ht'⟩ := picki 0 1 239 h0 h1
    obtain ⟨t, rfl⟩ : ∃ t : Nat, tt = (t : Int) := ⟨tt.toNat, by omega⟩
    have ht9 : (t : Int) ≤ 1000 := by omega
    refine fin [.str "ask", .tup (List.replicate t (.int 1024)), v, .int q8] s8 (pre _ ?_) ((k6.trans k7).trans k8) (by simp) (fun x hx => ?_)
    · refine seq_rt ?_
      simp [-mEq, mEq_ii, sizeLine_eq, e6, hv, e7, ht, ht9, e8, flat1]
    · simp only [List.mem_cons, List.not_mem_nil, or_false] at hx
      rcases hx with rfl | rfl | rfl | rfl
      · exact Lv.str (by simp [six])
      · exact Lv.rep (by omega)
      · rcases hv' with rfl | rfl | rfl | rfl
        · exact hrL 1
        · exact ⟨by simp, fun y hy => by
            simp at hy
            rcases hy with rfl | rfl
            · exact Lv.str (by simp [six])
            · exact Lv.int⟩
        · exact ⟨by simp, by simp⟩
        · exact ⟨by simp, fun y hy => by
            simp at hy
            rcases hy with rfl | rfl <;> exact Lv.int⟩
      · exact Lv.int
  · obtain ⟨q6, s6, e6, k6, g0, g1⟩ := t_draw s5 i 256 k5.b (by omega) (by omega)
    obtain ⟨q7, s7, e7, k7, h0, h1⟩ := t_draw s6 i 7 k6.b (by omega) (by omega)
    obtain ⟨q8, s8, e8, k8, i0, i1⟩ := t_draw s7 i 17 k7.b (by omega) (by omega)
    refine fin [.str "claim", .int n, .int d, .int (m - 1), .tup P, .tup [.int q6, .int 65535, .int 0, .int q7, .int d, .int q8], .int 0, .tup R] s8 (pre _ ?_) ((k6.trans k7).trans k8) (by simp) (fun x hx => ?_)
    · refine seq_nx (by simp [-mEq, mEq_ii]; exact ⟨rfl, rfl⟩) ?_
      refine seq_rt ?_
      simp [-mEq, mEq_ii, sizeLine_eq, e6, e7, e8]
    · simp only [List.mem_cons, List.not_mem_nil, or_false] at hx
      rcases hx with rfl | rfl | rfl | rfl | rfl | rfl | rfl | rfl
      · exact Lv.str (by simp [six])
      · exact Lv.int
      · exact Lv.int
      · exact Lv.int
      · exact hpL 1
      · exact ⟨by simp, fun y hy => by
          simp at hy
          rcases hy with rfl | rfl | rfl | rfl | rfl | rfl <;> exact Lv.int⟩
      · exact Lv.int
      · exact hrL 1
  · obtain ⟨q6, s6, e6, k6, g0, g1⟩ := t_draw s5 i 9 k5.b (by omega) (by omega)
    refine fin [.str "halve", .int n, .int q6, .int n, .int 5, .int d, .int (m - 1), .int 0, .int d, .int 1, .tup P] s6 (pre _ ?_) k6 (by simp) (fun x hx => ?_)
    · refine seq_nx (by simp [-mEq, mEq_ii]; exact ⟨rfl, rfl⟩) ?_
      refine seq_nx (by simp [-mEq, mEq_ii]; exact ⟨rfl, rfl⟩) ?_
      refine seq_rt ?_
      simp [-mEq, mEq_ii, sizeLine_eq, e6]
    · simp only [List.mem_cons, List.not_mem_nil, or_false] at hx
      rcases hx with rfl | rfl | rfl | rfl | rfl | rfl | rfl | rfl | rfl | rfl | rfl
      · exact Lv.str (by simp [six])
      all_goals first | exact Lv.int | exact hpL 1
  · obtain ⟨q6, s6, e6, k6, g0, g1⟩ := t_draw s5 i 4 k5.b (by omega) (by omega)
    obtain ⟨v, hv, hv'⟩ := pick4 (α := Unit) .non (.tup []) (.str "x") (.tup [.tup [.int 0, .int 0, .int 0, .int 0, .int 7, .int 0], .int 0, .tup []]) g0 g1
    refine fin [.str "prove", .int n, .int n, .int (m - 1), .int d, .int (m - 1), v] s6 (pre _ ?_) k6 (by simp) (fun x hx => ?_)
    · refine seq_nx (by simp [-mEq, mEq_ii, n0]; exact ⟨rfl, rfl⟩) ?_
      refine seq_nx (by simp [-mEq, mEq_ii, n1]; exact ⟨rfl, rfl⟩) ?_
      refine seq_nx (by simp [-mEq, mEq_ii, n2]; exact ⟨rfl, rfl⟩) ?_
      simp [-mEq, mEq_ii, sizeLine_eq, e6, hv]
    · simp only [List.mem_cons, List.not_mem_nil, or_false] at hx
      rcases hx with rfl | rfl | rfl | rfl | rfl | rfl | rfl
      · exact Lv.str (by simp [six])
      · exact Lv.int
      · exact Lv.int
      · exact Lv.int
      · exact Lv.int
      · exact Lv.int
      · rcases hv' with rfl | rfl | rfl | rfl
        · exact Lv.non
        · exact ⟨by simp, by simp⟩
        · exact Lv.str (by simp [six])
        · exact ⟨by simp, fun y hy => by
            simp at hy
            rcases hy with rfl | rfl | rfl
            · exact ⟨by simp, fun z hz => by
                simp only [List.mem_cons, List.not_mem_nil, or_false] at hz
                rcases hz with rfl | rfl | rfl | rfl | rfl | rfl <;> exact Lv.int⟩
            · exact Lv.int
            · exact ⟨by simp, by simp⟩⟩
end Gn

namespace Gn
open PySem L2 Mi
/-! ### what is asked of a value -/
def NR : W → Prop
  | .ref _ => False
  | .xst _ => False
  | .str z => PyData.strOk z = true
  | _ => True
def LR (K : Nat) : W → Prop
  | .ref _ => False
  | .xst _ => False
  | .tup xs => xs.length ≤ K ∧ ∀ x ∈ xs, NR x
  | _ => True
theorem six_ok {z : Str} (h : z ∈ six) : PyData.strOk z = true := by
  simp only [six, List.mem_cons, List.not_mem_nil, or_false] at h
  rcases h with rfl | rfl | rfl | rfl | rfl | rfl <;> exact strOk_lit _
theorem Lv.six {K n : Nat} {z : Str} (h : Lv K n (.str z)) : z ∈ six := by cases n <;> exact h
theorem Lv.nr {K n : Nat} {w : W} (h : Lv K n w) : NR w := by
  cases w with
  | str z => exact six_ok h.six
  | ref i => cases n <;> cases h
  | xst i => cases n <;> cases h
  | _ => trivial
theorem Lv.lr {K n : Nat} {w : W} (h : Lv K n w) : LR K w := by
  cases w with
  | tup xs =>
    cases n with
    | zero => cases h
    | succ n => exact ⟨h.1, fun x hx => (h.2 x hx).nr⟩
  | ref i => cases n <;> cases h
  | xst i => cases n <;> cases h
  | _ => trivial
def numI (most : Option Int) : W → Bool
  | .int x => decide (0 ≤ x) && (match most with | none => true | some m => decide (x ≤ m))
  | _ => false
def numsL (most size : Option Int) : W → Bool
  | .tup xs => (match size with | none => true | some s => decide ((xs.length : Int) ≤ s)) && xs.all (numI most)
  | _ => false
def regsB (top : Int) : W → Bool
  | .tup [a, b, c, d, e, f] => numI (some 255) a && numI (some 65535) b && numI (some 65535) c && numI (some 6) d && numI (some top) e && numI (some 16) f
  | _ => false
def srcB : W → Bool
  | .tup [.str z, n] => decide (z = "answer") && numI none n
  | w => numsL (some 65535) (some 16) w
theorem boolsW_map {α : Type} (f : α → Bool) : ∀ l : List α, boolsW (l.map fun x => W.bl (f x)) = some (l.map f)
  | [] => rfl
  | x :: l => by simp [boolsW_map f l]
theorem mAll_map {α : Type} (f : α → Bool) (l : List α) (st : Sto) : mAll [.lst (l.map fun x => W.bl (f x))] st = .ok (.bl (l.all f)) st := by
  simp only [mAll, asL, boolsW_map]
  rw [List.all_map]; rfl
theorem all_tup {it : MI} {n v : Nat} {e : ME} {s : Slo} {st : Sto} {ws : List W} (f : W → Bool) (hi : it s st = .ok (.vals ws) st) (hl : ws.length ≤ 1000000) (h : ∀ w ∈ ws, e ((wipeW s [v]).set v (some w)) st = .ok (.bl (f w)) st) :
    mCB mAll (mCons (mLc it (.nm v) mYes e [v]) mNil) s st = .ok (.bl (ws.all f)) st := by
  have z := mLc_of (n := .nm v) (t := mYes) (e := e) (vs := [v]) hi hl (fun _ => true) (fun w => .bl (f w)) (fun w hw => ⟨_, rfl, rfl, fun _ => h w hw⟩)
  rw [filter_yes] at z
  simp only [mCB, mCons, z, Out.bind, mNil, mAll_map f ws]
theorem p_isint (w : W) (b : Int) (st : Sto) (h : NR w) : m_is_integer [w, .int 0, .int b] st = .ok (.bl (numI (some b) w)) st := by
  simp only [m_is_integer, b_is_integer]
  cases w with
  | int x =>
    by_cases h1 : 0 ≤ x
    · simp [numI, h1]
    · simp [numI, h1]
  | ref i => cases h
  | xst i => cases h
  | bl b => cases b <;> simp [numI]
  | _ => simp [numI]
theorem p_isword (w : W) (st : Sto) (h : NR w) : m_is_word [w] st = .ok (.bl (numI (some 65535) w)) st := by
  have e := p_isint w 65535 st h
  simp only [m_is_word, b_is_word, w_MOST_WORD]
  simp [e]
theorem p_isnum (w : W) (st : Sto) (h : NR w) : m_is_number [w] st = .ok (.bl (numI none w)) st := by
  simp only [m_is_number, b_is_number]
  cases w with
  | int x => simp [numI]
  | ref i => cases h
  | xst i => cases h
  | bl b => cases b <;> simp [numI]
  | _ => simp [numI]
theorem q_isnum (w : W) (b : Option Int) (st : Sto) (h : NR w) : m_L_is_number [w, (match b with | none => .non | some b => .int b)] st = .ok (.bl (numI b w)) st := by
  simp only [m_L_is_number, b_L_is_number]
  cases w with
  | int x =>
    cases b with
    | none => by_cases h1 : 0 ≤ x <;> simp [numI, h1]
    | some b => by_cases h1 : 0 ≤ x <;> simp [numI, h1]
  | ref i => cases h
  | xst i => cases h
  | bl c => cases c <;> simp [numI]
  | _ => simp [numI]
section
variable {m : Int} {j : Nat} {st : Sto} (hj : DigW m st j)
include hj
theorem p_isdig (w : W) (h : NR w) : m_Digests_is_digest [.ref j, w] st = .ok (.bl (numI (some (m - 1)) w)) st := by
  have e := p_isint w (m - 1) st h
  obtain ⟨b, hj⟩ := hj
  simp only [m_Digests_is_digest, b_Digests_is_digest]
  simp [hj, e]
theorem p_digs {K : Nat} (hK : K ≤ 100000) (w : W) (h : LR K w) : m_are_digests [.ref j, w] st = .ok (.bl (numsL (some (m - 1)) none w)) st := by
  refine def_rt rfl ?_
  show b_are_digests [some (.ref j), some w, none] st = _
  unfold b_are_digests
  cases w with
  | tup ws =>
    have e2 := all_tup (it := mITup (mVar 1)) (n := 2) (v := 2) (e := e0_are_digests) (s := [some (.ref j), some (.tup ws), none]) (st := st) (ws := ws) (numI (some (m - 1))) (by simp) (by have := h.1; omega) (fun w hw => by
      have e := p_isdig hj w (h.2 w hw)
      obtain ⟨b, hj⟩ := hj
      simp [e0_are_digests, wipeW, hj, e])
    have ei : mIsi "tuple" (mVar 1) [some (.ref j), some (.tup ws), none] st = .ok (.bl true) st := by simp
    simp only [mRet, mAndV, ei, e2, Out.run, Out.bind]
    simp [numsL]
  | ref i => cases h
  | xst i => cases h
  | _ => simp [numsL]
theorem p_regs (w : W) (h : LR 1000 w) : m_are_registers [.ref j, w] st = .ok (.bl (regsB (m - 1) w)) st := by
  have hm : w_MARKS = W.tup [.str "long", .str "done", .str "divided", .str "place", .str "input", .str "full", .str "bad"] := rfl
  simp only [m_are_registers, b_are_registers, w_PLACES, w_MOST_TOLD]
  cases w with
  | tup ws =>
    obtain ⟨hl, hi⟩ := h
    match ws, hi with
    | [a, b, c, d, e, f], hp =>
      have ea := p_isint a 255 st (hp a (by simp))
      have eb := p_isword b st (hp b (by simp))
      have ec := p_isword c st (hp c (by simp))
      have ed := p_isint d 6 st (hp d (by simp))
      have ee := p_isdig hj e (hp e (by simp))
      have ef := p_isint f 16 st (hp f (by simp))
      obtain ⟨bb, ho⟩ := hj
      cases h1 : numI (some 255) a <;> cases h2 : numI (some 65535) b <;> cases h3 : numI (some 65535) c <;> cases h4 : numI (some 6) d <;> cases h5 : numI (some (m - 1)) e <;>
        simp [regsB, ea, eb, ec, ed, ee, ef, h1, h2, h3, h4, h5, hm, ho]
    | [], _ => simp [regsB]
    | [a], _ => simp [regsB]
    | [a, b], _ => simp [regsB]
    | [a, b, c], _ => simp [regsB]
    | [a, b, c, d], _ => simp [regsB]
    | [a, b, c, d, e], _ => simp [regsB]
    | a :: b :: c :: d :: e :: f :: g :: r, _ =>
      have h7 : ¬ (r.length : Int) + 1 + 1 + 1 + 1 + 1 + 1 + 1 = 6 := by omega
      simp [regsB, h7]
  | ref i => cases h
  | xst i => cases h
  | _ => simp [regsB]
end
theorem p_row {K : Nat} (hK : K ≤ 100000) (w : W) (h : LR K w) (most : Int) (st : Sto) : m_is_row [w, .int most] st = .ok (.bl (numsL (some 65535) (some most) w)) st := by
  refine def_rt rfl ?_
  show b_is_row [some w, some (.int most), none] st = _
  unfold b_is_row
  cases w with
  | tup ws =>
    have hz : ws.length ≤ 16777216 := by have := h.1; omega
    have e2 := all_tup (it := mITup (mVar 0)) (n := 2) (v := 2) (e := e0_is_row) (s := [some (.tup ws), some (.int most), none]) (st := st) (ws := ws) (numI (some 65535)) (by simp) (by have := h.1; omega) (fun w hw => by
      have e := p_isword w st (h.2 w hw)
      simp [e0_is_row, wipeW, e])
    have ei : mIsi "tuple" (mVar 0) [some (.tup ws), some (.int most), none] st = .ok (.bl true) st := by simp
    have el : mOp mLe (mCB mLen (mCons (mVar 0) mNil)) (mVar 1) [some (.tup ws), some (.int most), none] st = .ok (.bl (decide ((ws.length : Int) ≤ most))) st := by simp [sizeLine_eq, hz]
    by_cases hs : (ws.length : Int) ≤ most
    · simp only [hs, decide_true] at el
      simp only [mRet, mAndV, ei, el, e2, Out.run, Out.bind]
      simp [numsL, hs]
    · simp only [hs, decide_false] at el
      simp only [mRet, mAndV, ei, el, Out.run, Out.bind]
      simp [numsL, hs]
  | ref i => cases h
  | xst i => cases h
  | _ => simp [numsL]
theorem p_src {K : Nat} (hK : K ≤ 100000) (w : W) (h : LR K w) (st : Sto) : m_is_source [w] st = .ok (.bl (srcB w)) st := by
  have er := p_row hK w h 16 st
  refine def_rt rfl ?_
  show b_is_source [some w] st = _
  unfold b_is_source
  simp only [w_MOST_INPUTS]
  cases w with
  | tup ws =>
    obtain ⟨hl, hi⟩ := h
    match ws, hi, er with
    | [], _, er => 
      refine seq_nx (by simp [sizeLine_eq]; exact ⟨rfl, rfl⟩) ?_
      simp [er, srcB]
    | [a], _, er =>
      refine seq_nx (by simp [sizeLine_eq]; exact ⟨rfl, rfl⟩) ?_
      simp [er, srcB]
    | a :: b :: c :: r, _, er =>
      have h7 : ¬ (r.length : Int) + 1 + 1 + 1 = 2 := by omega
      have hz : r.length + 1 + 1 + 1 ≤ 16777216 := by simp at hl; omega
      refine seq_nx (by simp [sizeLine_eq, h7, hz]; exact ⟨rfl, rfl⟩) ?_
      simp [er, srcB]
    | [a, b], hp, er =>
      have eb := p_isnum b st (hp b (by simp))
      cases a with
      | str z =>
        refine seq_rt ?_
        by_cases hz : z = Str.ofString "answer"
        · subst hz; simp [sizeLine_eq, eb, srcB]
        · have hok : PyData.strOk z = true := hp (.str z) (by simp)
          simp [sizeLine_eq, hz, hok, srcB]
      | ref i => exact (hp _ (List.mem_cons_self ..)).elim
      | xst i => exact (hp _ (List.mem_cons_self ..)).elim
      | bl c =>
        refine seq_nx (by simp [sizeLine_eq]; exact ⟨rfl, rfl⟩) ?_
        simp [er, srcB]
      | _ =>
        refine seq_nx (by simp [sizeLine_eq]; exact ⟨rfl, rfl⟩) ?_
        simp [er, srcB]
  | ref i => cases h
  | xst i => cases h
  | bl c =>
    refine seq_nx (by simp [sizeLine_eq]; exact ⟨rfl, rfl⟩) ?_
    simp [er, srcB]
  | _ =>
    refine seq_nx (by simp [sizeLine_eq]; exact ⟨rfl, rfl⟩) ?_
    simp [er, srcB]
end Gn

namespace Gn
open PySem L2 Mi
/-! ### the law's own judge -/
abbrev oW (o : Option Int) : W := match o with
  | none => .non
  | some b => .int b
theorem filter_none {f : W → Bool} (ws : List W) : (decide (((ws.filter fun w => !f w).length : Int) = 0)) = ws.all f := by
  rw [Bool.eq_iff_iff]
  simp only [decide_eq_true_eq, List.all_eq_true]
  constructor
  · intro h w hw
    have h0 : ws.filter (fun w => !f w) = [] := List.eq_nil_of_length_eq_zero (by omega)
    cases hf : f w with
    | true => rfl
    | false =>
      have : w ∈ ws.filter (fun w => !f w) := List.mem_filter.mpr ⟨hw, by simp [hf]⟩
      rw [h0] at this
      cases this
  · intro h
    have : ws.filter (fun w => !f w) = [] := List.filter_eq_nil_iff.mpr fun w hw => by simp [h w hw]
    rw [this]
    rfl
theorem q_nums {K : Nat} (hK : K ≤ 100000) (w : W) (h : LR K w) (most size : Option Int) (st : Sto) : m_L_numbers [w, oW most, oW size] st = .ok (.bl (numsL most size w)) st := by
  refine def_rt rfl ?_
  show b_L_numbers [some w, some (oW most), some (oW size), none] st = _
  unfold b_L_numbers
  cases w with
  | tup ws =>
    have hz : ws.length ≤ 16777216 := by have := h.1; omega
    have z := mLc_of (it := mITup (mVar 0)) (n := .nm 3) (t := t0_L_numbers) (e := e1_L_numbers) (vs := [3]) (s := [some (.tup ws), some (oW most), some (oW size), none]) (st := st) (st1 := st) (ws := ws) (by simp) (by have := h.1; omega) (fun w => !numI most w) (fun w => w) (fun w hw => by
      have e := q_isnum w most st (h.2 w hw)
      refine ⟨_, rfl, ?_, fun _ => ?_⟩
      · cases most <;> simp [t0_L_numbers, wipeW] at e ⊢ <;> simp [e]
      · simp [e1_L_numbers, wipeW])
    have hl : ((ws.filter fun w => !numI most w).map fun w => w).length ≤ 16777216 := by
      rw [List.length_map]
      exact Nat.le_trans (List.length_filter_le _ _) hz
    have e2 : mOp mEq (mCB mLen (mCons (mLc (mITup (mVar 0)) (.nm 3) t0_L_numbers e1_L_numbers [3]) mNil)) (mC (W.int 0)) [some (.tup ws), some (oW most), some (oW size), none] st = .ok (.bl (ws.all (numI most))) st := by
      rw [← filter_none]
      rw [List.map_id'] at z hl
      generalize (ws.filter fun w => !numI most w) = F at *
      simp [-mEq, mEq_ii, -mLc, z, sizeLine_eq, hl]
    cases size with
    | none =>
      refine seq_nx (s1 := [some (.tup ws), some (oW most), some .non, none]) (st1 := st) (by simp) ?_
      simp only [mRet, e2, Out.run]
      simp [numsL]
    | some sz =>
      by_cases hs : (ws.length : Int) ≤ sz
      · have hs' : ¬ sz < (ws.length : Int) := by omega
        refine seq_nx (s1 := [some (.tup ws), some (oW most), some (.int sz), none]) (st1 := st) (by simp [sizeLine_eq, hz, hs']) ?_
        simp only [mRet, e2, Out.run]
        simp [numsL, hs]
      · have hs' : sz < (ws.length : Int) := by omega
        refine seq_rt ?_
        simp [sizeLine_eq, hz, hs', numsL, hs]
  | ref i => cases h
  | xst i => cases h
  | _ => exact seq_rt (by simp [numsL])
theorem q_regs (w : W) (h : LR 1000 w) (top : Int) (st : Sto) : m_L_registers [w, .int top] st = .ok (.bl (regsB top w)) st := by
  refine def_rt rfl ?_
  show b_L_registers [some w, some (.int top), none, none] st = _
  unfold b_L_registers
  cases w with
  | tup ws =>
    obtain ⟨hl, hi⟩ := h
    match ws, hi with
    | [a, b, c, d, e, f], hp =>
      have ea := q_isnum a (some 255) st (hp a (by simp))
      have eb := q_isnum b (some 65535) st (hp b (by simp))
      have ec := q_isnum c (some 65535) st (hp c (by simp))
      have ed := q_isnum d (some 6) st (hp d (by simp))
      have ee := q_isnum e (some top) st (hp e (by simp))
      have ef := q_isnum f (some 16) st (hp f (by simp))
      simp only at ea eb ec ed ee ef
      let B : W := .lst [.int 255, .int 65535, .int 65535, .int 6, .int top, .int 16]
      have z := mLc_of (it := mIRng1 (mCons (mC (W.int 6)) mNil)) (n := .nm 3) (t := t0_L_registers) (e := e1_L_registers) (vs := [3]) (s := [some (.tup [a, b, c, d, e, f]), some (.int top), some B, none]) (st := st) (st1 := st) (ws := rngW 0 6)
        (rng1_nat (k := 6) (by simp) (by omega)) (by rw [rngW_len]; omega)
        (fun w => match w with | .int 0 => !numI (some 255) a | .int 1 => !numI (some 65535) b | .int 2 => !numI (some 65535) c | .int 3 => !numI (some 6) d | .int 4 => !numI (some top) e | .int 5 => !numI (some 16) f | _ => false) (fun w => w) (fun w hw => by
          obtain ⟨k, hk, rfl⟩ := mem_rng0 hw
          have hk6 : k = 0 ∨ k = 1 ∨ k = 2 ∨ k = 3 ∨ k = 4 ∨ k = 5 := by omega
          refine ⟨_, rfl, ?_, fun _ => ?_⟩
          · rcases hk6 with rfl | rfl | rfl | rfl | rfl | rfl
            · have a1 : atI [a, b, c, d, e, f] 0 = some a := rfl
              simp [t0_L_registers, wipeW, NT.m, B, a1, ea]
            · have a1 : atI [a, b, c, d, e, f] 1 = some b := rfl
              simp [t0_L_registers, wipeW, NT.m, B, a1, eb]
            · have a1 : atI [a, b, c, d, e, f] 2 = some c := rfl
              simp [t0_L_registers, wipeW, NT.m, B, a1, ec]
            · have a1 : atI [a, b, c, d, e, f] 3 = some d := rfl
              simp [t0_L_registers, wipeW, NT.m, B, a1, ed]
            · have a1 : atI [a, b, c, d, e, f] 4 = some e := rfl
              simp [t0_L_registers, wipeW, NT.m, B, a1, ee]
            · have a1 : atI [a, b, c, d, e, f] 5 = some f := rfl
              simp [t0_L_registers, wipeW, NT.m, B, a1, ef]
          · simp [e1_L_registers, wipeW, NT.m])
      refine seq_nx (by simp [sizeLine_eq]; exact ⟨rfl, rfl⟩) ?_
      refine seq_nx (s1 := [some (.tup [a, b, c, d, e, f]), some (.int top), some B, none]) (st1 := st) (by simp [sizeLine_eq, B]) ?_
      have hr : rngW 0 6 = [.int 0, .int 1, .int 2, .int 3, .int 4, .int 5] := rfl
      rw [hr] at z
      simp only [mRet, mOp, mCB, mCons, z, Out.bind, Out.run, mNil, mC]
      cases h1 : numI (some 255) a <;> cases h2 : numI (some 65535) b <;> cases h3 : numI (some 65535) c <;> cases h4 : numI (some 6) d <;> cases h5 : numI (some top) e <;> cases h6 : numI (some 16) f <;>
        simp [regsB, h1, h2, h3, h4, h5, h6, List.filter_cons, sizeLine_eq]
    | [], _ => exact seq_rt (by simp [regsB, sizeLine_eq])
    | [a], _ => exact seq_rt (by simp [regsB, sizeLine_eq])
    | [a, b], _ => exact seq_rt (by simp [regsB, sizeLine_eq])
    | [a, b, c], _ => exact seq_rt (by simp [regsB, sizeLine_eq])
    | [a, b, c, d], _ => exact seq_rt (by simp [regsB, sizeLine_eq])
    | [a, b, c, d, e], _ => exact seq_rt (by simp [regsB, sizeLine_eq])
    | a :: b :: c :: d :: e :: f :: g :: r, _ =>
      have h7 : ¬ (r.length : Int) + 1 + 1 + 1 + 1 + 1 + 1 + 1 = 6 := by omega
      have hz : r.length + 1 + 1 + 1 + 1 + 1 + 1 + 1 ≤ 16777216 := by simp at hl; omega
      exact seq_rt (by simp [regsB, h7, hz, sizeLine_eq])
  | ref i => cases h
  | xst i => cases h
  | _ => exact seq_rt (by simp [regsB])
end Gn

namespace Gn
open PySem L2 Mi
/-! ### letters -/
def askB : List W → Bool
  | [a, b, c] => numsL (some 65535) (some 239) a && srcB b && numI (some 8) c
  | _ => false
def claimB (m : Int) : List W → Bool
  | [n, r, l, p, g, me, t] => numI none n && numsL (some (m - 1)) none (.tup [r, l, me]) && numsL (some (m - 1)) none p && regsB (m - 1) g && numsL (some 65535) (some 16) t
  | _ => false
def halveB (m : Int) : List W → Bool
  | [n, a, b, c1, c2, c3, c4, c5, c6, p] => numI none n && numI none a && numI none b && numsL (some (m - 1)) none (.tup [c1, c2, c3, c4, c5, c6]) && numsL (some (m - 1)) none p
  | _ => false
def proveB (m : Int) : List W → Bool
  | [n, a, d1, d2, d3, _] => numI none n && numI none a && numsL (some (m - 1)) none (.tup [d1, d2, d3])
  | _ => false
theorem ask_len : ∀ {xs : List W}, xs.length ≠ 3 → askB xs = false := fun {xs} h => by
  match xs, h with
  | [], _ => rfl
  | [_], _ => rfl
  | [_, _], _ => rfl
  | [_, _, _], h => exact absurd rfl h
  | _ :: _ :: _ :: _ :: _, _ => rfl
theorem claim_len {m : Int} : ∀ {xs : List W}, xs.length ≠ 7 → claimB m xs = false := fun {xs} h => by
  match xs, h with
  | [], _ => rfl
  | [_], _ => rfl
  | [_, _], _ => rfl
  | [_, _, _], _ => rfl
  | [_, _, _, _], _ => rfl
  | [_, _, _, _, _], _ => rfl
  | [_, _, _, _, _, _], _ => rfl
  | [_, _, _, _, _, _, _], h => exact absurd rfl h
  | _ :: _ :: _ :: _ :: _ :: _ :: _ :: _ :: _, _ => rfl
theorem halve_len {m : Int} : ∀ {xs : List W}, xs.length ≠ 10 → halveB m xs = false := fun {xs} h => by
  match xs, h with
  | [], _ => rfl
  | [_], _ => rfl
  | [_, _], _ => rfl
  | [_, _, _], _ => rfl
  | [_, _, _, _], _ => rfl
  | [_, _, _, _, _], _ => rfl
  | [_, _, _, _, _, _], _ => rfl
  | [_, _, _, _, _, _, _], _ => rfl
  | [_, _, _, _, _, _, _, _], _ => rfl
  | [_, _, _, _, _, _, _, _, _], _ => rfl
  | [_, _, _, _, _, _, _, _, _, _], h => exact absurd rfl h
  | _ :: _ :: _ :: _ :: _ :: _ :: _ :: _ :: _ :: _ :: _ :: _, _ => rfl
theorem prove_len {m : Int} : ∀ {xs : List W}, xs.length ≠ 6 → proveB m xs = false := fun {xs} h => by
  match xs, h with
  | [], _ => rfl
  | [_], _ => rfl
  | [_, _], _ => rfl
  | [_, _, _], _ => rfl
  | [_, _, _, _], _ => rfl
  | [_, _, _, _, _], _ => rfl
  | [_, _, _, _, _, _], h => exact absurd rfl h
  | _ :: _ :: _ :: _ :: _ :: _ :: _ :: _, _ => rfl
def letB (m : Int) : W → Bool
  | .tup (.str z :: xs) => if z = "ask" then askB xs else if z = "claim" then claimB m xs else if z = "halve" then halveB m xs else if z = "prove" then proveB m xs else false
  | _ => false
theorem lk (z : Str) (i : Option Int) (h : (z, i) ∈ [((Str.ofString "ask" : Str), some (4 : Int)), (Str.ofString "claim", some 8), (Str.ofString "halve", some 11), (Str.ofString "prove", some 7), (Str.ofString "answer", none), (Str.ofString "x", none)]) : lookZ zt_SIZES z = some i := by
  simp only [List.mem_cons, Prod.mk.injEq, List.not_mem_nil, or_false] at h
  rcases h with ⟨rfl, rfl⟩ | ⟨rfl, rfl⟩ | ⟨rfl, rfl⟩ | ⟨rfl, rfl⟩ | ⟨rfl, rfl⟩ | ⟨rfl, rfl⟩ <;> simp [zt_SIZES, lookZ]
section
variable {m : Int} {j : Nat} {st : Sto} (hj : DigW m st j)
include hj
theorem p_letter {n : Nat} (w : W) (h : Lv 310 n w) : m_is_letter [.ref j, w] st = .ok (.bl (letB m w)) st := by
  refine def_rt rfl ?_
  show b_is_letter [some (.ref j), some w, none, none, none, none, none, none, none] st = _
  unfold b_is_letter
  simp only [w_MOST_IMAGE, w_MOST_LEVEL, w_MOST_TOLD]
  have l1 := lk "ask" (some 4) (by simp)
  have l2 := lk "claim" (some 8) (by simp)
  have l3 := lk "halve" (some 11) (by simp)
  have l4 := lk "prove" (some 7) (by simp)
  have l5 := lk "answer" none (by simp)
  have l6 := lk "x" none (by simp)
  cases w with
  | tup ws =>
    cases n with
    | zero => cases h
    | succ n =>
    obtain ⟨hl, hi⟩ := h
    cases ws with
    | nil => exact seq_rt (by simp [letB, sizeLine_eq])
    | cons x xs =>
      have hz : xs.length + 1 ≤ 16777216 := by simp at hl; omega
      have hn0 : ¬ (xs.length : Int) + 1 = 0 := by omega
      have hxx : ∀ y ∈ xs, Lv 310 n y := fun y hy => hi y (by simp [hy])
      have hx := hi x (by simp)
      cases x with
      | str z =>
        have hz6 := hx.six
        simp only [six, List.mem_cons, List.not_mem_nil, or_false] at hz6
        have wrong : ∀ (k : Nat) (zz : Str), lookZ zt_SIZES zz = some (some ((k + 1 : Nat) : Int)) → xs.length ≠ k → ∀ (rest : MS), mSeq (mIfS (mTOr (mTNot (mTru (mIsi "tuple" (mVar 1)))) (mTOr (mTest (mOp mEq (mCB mLen (mCons (mVar 1) mNil)) (mC (W.int 0)))) (mTOr (mTNot (mTru (mIsi "str" (mOp mIx (mVar 1) (mC (W.int 0)))))) (mTest (mNotInT zt_SIZES (mOp mIx (mVar 1) (mC (W.int 0)))))))) (mRet (mC (W.bl false))) mSkip)
            (mSeq (mIfS (mTest (mOp mNe (mCB mLen (mCons (mVar 1) mNil)) (mItemT zt_SIZES (mOp mIx (mVar 1) (mC (W.int 0)))))) (mRet (mC (W.bl false))) mSkip) rest) [some (.ref j), some (.tup (.str zz :: xs)), none, none, none, none, none, none, none] st = .rt (.bl false) st := by
          intro k zz hk hne rest
          have hne' : ¬ (xs.length : Int) + 1 = ((k + 1 : Nat) : Int) := by omega
          have hne2 : ¬ (xs.length : Int) = (k : Int) := by omega
          refine seq_nx (by simp [-mEq, mEq_ii, hn0, hz, hk, sizeLine_eq]; exact ⟨rfl, rfl⟩) ?_
          exact seq_rt (by simp [-mEq, -mNe, mEq_ii, mNe_ii, hz, hk, hne', hne2, hne, sizeLine_eq])
        rcases hz6 with rfl | rfl | rfl | rfl | rfl | rfl
        · by_cases hlen : xs.length = 3
          · match xs, hlen, hxx with
            | [a, b, c], _, hxx =>
              have ea := p_row (K := 310) (by omega) a (hxx a (by simp)).lr 239 st
              have eb := p_src (K := 310) (by omega) b (hxx b (by simp)).lr st
              have ec := p_isint c 8 st (hxx c (by simp)).nr
              have hB : letB m (.tup [.str "ask", a, b, c]) = (numsL (some 65535) (some 239) a && srcB b && numI (some 8) c) := by simp [letB, askB]
              rw [hB]
              have v0 : atI [W.str (Str.ofString "ask"), a, b, c] 0 = some (.str (Str.ofString "ask")) := rfl
              have v1 : atI [W.str (Str.ofString "ask"), a, b, c] 1 = some a := rfl
              have v2 : atI [W.str (Str.ofString "ask"), a, b, c] 2 = some b := rfl
              have v3 : atI [W.str (Str.ofString "ask"), a, b, c] 3 = some c := rfl
              generalize numsL (some 65535) (some 239) a = A at *
              generalize srcB b = B at *
              generalize numI (some 8) c = C at *
              refine seq_nx (by simp [l1, v0, sizeLine_eq]; exact ⟨rfl, rfl⟩) ?_
              refine seq_nx (by simp [l1, v0, sizeLine_eq]; exact ⟨rfl, rfl⟩) ?_
              refine seq_rt ?_
              cases A <;> cases B <;> simp [v0, v1, v2, v3, ea, eb, ec]
          · rw [wrong 3 "ask" l1 hlen]
            simp [letB, ask_len hlen]
        · by_cases hlen : xs.length = 7
          · match xs, hlen, hxx with
            | [nn, r, l, p, g, me, t], _, hxx =>
              have en := p_isnum nn st (hxx nn (by simp)).nr
              have er := p_digs hj (K := 310) (by omega) (.tup [r, l, me]) ⟨by simp, fun y hy => by
                simp only [List.mem_cons, List.not_mem_nil, or_false] at hy
                rcases hy with rfl | rfl | rfl <;> exact (hxx _ (by simp)).nr⟩
              have ep := p_digs hj (K := 310) (by omega) p (hxx p (by simp)).lr
              have eg := p_regs hj g (by
                have z := hxx g (by simp)
                cases g with
                | tup gs =>
                  have z2 := z.lr
                  exact ⟨by have := z2.1; omega, z2.2⟩
                | _ => exact z.lr)
              have et := p_row (K := 310) (by omega) t (hxx t (by simp)).lr 16 st
              have hB : letB m (.tup [.str "claim", nn, r, l, p, g, me, t]) = (numI none nn && numsL (some (m - 1)) none (.tup [r, l, me]) && numsL (some (m - 1)) none p && regsB (m - 1) g && numsL (some 65535) (some 16) t) := by simp [letB, claimB]
              rw [hB]
              have v0 : atI [W.str (Str.ofString "claim"), nn, r, l, p, g, me, t] 0 = some (.str (Str.ofString "claim")) := rfl
              have v1 : atI [W.str (Str.ofString "claim"), nn, r, l, p, g, me, t] 1 = some nn := rfl
              generalize numI none nn = N at *
              generalize numsL (some (m - 1)) none (.tup [r, l, me]) = R at *
              generalize numsL (some (m - 1)) none p = P at *
              generalize regsB (m - 1) g = G at *
              generalize numsL (some 65535) (some 16) t = T at *
              refine seq_nx (by simp [l2, v0, sizeLine_eq]; exact ⟨rfl, rfl⟩) ?_
              refine seq_nx (by simp [l2, v0, sizeLine_eq]; exact ⟨rfl, rfl⟩) ?_
              refine seq_nx (by simp [v0, sizeLine_eq]; exact ⟨rfl, rfl⟩) ?_
              cases N
              · exact seq_rt (by simp [v1, en])
              refine seq_nx (by simp [v1, en]; exact ⟨rfl, rfl⟩) ?_
              refine seq_rt ?_
              cases R <;> cases P <;> cases G <;> simp [v0, er, ep, eg, et, sizeLine_eq]
          · rw [wrong 7 "claim" l2 hlen]
            simp [letB, claim_len hlen]
        · by_cases hlen : xs.length = 10
          · match xs, hlen, hxx with
            | [nn, a, b, c1, c2, c3, c4, c5, c6, p], _, hxx =>
              have en := p_isnum nn st (hxx nn (by simp)).nr
              have ea := p_isnum a st (hxx a (by simp)).nr
              have eb := p_isnum b st (hxx b (by simp)).nr
              have ec := p_digs hj (K := 310) (by omega) (.tup [c1, c2, c3, c4, c5, c6]) ⟨by simp, fun y hy => by
                simp only [List.mem_cons, List.not_mem_nil, or_false] at hy
                rcases hy with rfl | rfl | rfl | rfl | rfl | rfl <;> exact (hxx _ (by simp)).nr⟩
              have ep := p_digs hj (K := 310) (by omega) p (hxx p (by simp)).lr
              have hB : letB m (.tup [.str "halve", nn, a, b, c1, c2, c3, c4, c5, c6, p]) = (numI none nn && numI none a && numI none b && numsL (some (m - 1)) none (.tup [c1, c2, c3, c4, c5, c6]) && numsL (some (m - 1)) none p) := by simp [letB, halveB]
              rw [hB]
              have v0 : atI [W.str (Str.ofString "halve"), nn, a, b, c1, c2, c3, c4, c5, c6, p] 0 = some (.str (Str.ofString "halve")) := rfl
              have v1 : atI [W.str (Str.ofString "halve"), nn, a, b, c1, c2, c3, c4, c5, c6, p] 1 = some nn := rfl
              have v2 : atI [W.str (Str.ofString "halve"), nn, a, b, c1, c2, c3, c4, c5, c6, p] 2 = some a := rfl
              have v3 : atI [W.str (Str.ofString "halve"), nn, a, b, c1, c2, c3, c4, c5, c6, p] 3 = some b := rfl
              have v10 : atI [W.str (Str.ofString "halve"), nn, a, b, c1, c2, c3, c4, c5, c6, p] 10 = some p := rfl
              have vc : cutW [W.str (Str.ofString "halve"), nn, a, b, c1, c2, c3, c4, c5, c6, p] (some 4) (some 10) = [c1, c2, c3, c4, c5, c6] := cutMm _ 4 10
              generalize numI none nn = N at *
              generalize numI none a = A at *
              generalize numI none b = B at *
              generalize numsL (some (m - 1)) none (.tup [c1, c2, c3, c4, c5, c6]) = C at *
              generalize numsL (some (m - 1)) none p = P at *
              refine seq_nx (by simp [l3, v0, sizeLine_eq]; exact ⟨rfl, rfl⟩) ?_
              refine seq_nx (by simp [l3, v0, sizeLine_eq]; exact ⟨rfl, rfl⟩) ?_
              refine seq_nx (by simp [v0, sizeLine_eq]; exact ⟨rfl, rfl⟩) ?_
              cases N
              · exact seq_rt (by simp [v1, en])
              refine seq_nx (by simp [v1, en]; exact ⟨rfl, rfl⟩) ?_
              refine seq_nx (by simp [v0, sizeLine_eq]; exact ⟨rfl, rfl⟩) ?_
              refine seq_rt ?_
              cases A <;> cases B <;> cases C <;> simp [v0, v2, v3, v10, vc, ea, eb, ec, ep, sizeLine_eq]
          · rw [wrong 10 "halve" l3 hlen]
            simp [letB, halve_len hlen]
        · by_cases hlen : xs.length = 6
          · match xs, hlen, hxx with
            | [nn, a, d1, d2, d3, y], _, hxx =>
              have en := p_isnum nn st (hxx nn (by simp)).nr
              have ea := p_isnum a st (hxx a (by simp)).nr
              have ed := p_digs hj (K := 310) (by omega) (.tup [d1, d2, d3]) ⟨by simp, fun y hy => by
                simp only [List.mem_cons, List.not_mem_nil, or_false] at hy
                rcases hy with rfl | rfl | rfl <;> exact (hxx _ (by simp)).nr⟩
              have hB : letB m (.tup [.str "prove", nn, a, d1, d2, d3, y]) = (numI none nn && numI none a && numsL (some (m - 1)) none (.tup [d1, d2, d3])) := by simp [letB, proveB]
              rw [hB]
              have v0 : atI [W.str (Str.ofString "prove"), nn, a, d1, d2, d3, y] 0 = some (.str (Str.ofString "prove")) := rfl
              have v1 : atI [W.str (Str.ofString "prove"), nn, a, d1, d2, d3, y] 1 = some nn := rfl
              have v2 : atI [W.str (Str.ofString "prove"), nn, a, d1, d2, d3, y] 2 = some a := rfl
              have vc : cutW [W.str (Str.ofString "prove"), nn, a, d1, d2, d3, y] (some 3) (some 6) = [d1, d2, d3] := cutMm _ 3 6
              generalize numI none nn = N at *
              generalize numI none a = A at *
              generalize numsL (some (m - 1)) none (.tup [d1, d2, d3]) = C at *
              refine seq_nx (by simp [l4, v0, sizeLine_eq]; exact ⟨rfl, rfl⟩) ?_
              refine seq_nx (by simp [l4, v0, sizeLine_eq]; exact ⟨rfl, rfl⟩) ?_
              refine seq_nx (by simp [v0, sizeLine_eq]; exact ⟨rfl, rfl⟩) ?_
              cases N
              · exact seq_rt (by simp [v1, en])
              refine seq_nx (by simp [v1, en]; exact ⟨rfl, rfl⟩) ?_
              refine seq_nx (by simp [v0, sizeLine_eq]; exact ⟨rfl, rfl⟩) ?_
              refine seq_nx (by simp [v0, sizeLine_eq]; exact ⟨rfl, rfl⟩) ?_
              cases A <;> cases C <;> simp [v2, vc, ea, ed, sizeLine_eq]
          · rw [wrong 6 "prove" l4 hlen]
            simp [letB, prove_len hlen]
        · exact seq_rt (by simp [-mEq, mEq_ii, hn0, hz, l5, sizeLine_eq, letB])
        · exact seq_rt (by simp [-mEq, mEq_ii, hn0, hz, l6, sizeLine_eq, letB])
      | ref i => cases n <;> cases hx
      | xst i => cases n <;> cases hx
      | _ => exact seq_rt (by simp [-mEq, mEq_ii, hn0, hz, sizeLine_eq, letB])
  | ref i => cases n <;> cases h
  | xst i => cases n <;> cases h
  | _ => exact seq_rt (by simp [letB])
end
end Gn

namespace Gn
open PySem L2 Mi
def sizesK : List (Key × W) := [(.inr (Str.ofString "ask"), .int 4), (.inr (Str.ofString "claim"), .int 8), (.inr (Str.ofString "halve"), .int 11), (.inr (Str.ofString "prove"), .int 7)]
theorem due_dict (w top : Option W) (a b : Option W) (st : Sto) : mAsg (mDisp [((mC (W.str "ask")), (mC (W.int 4))), ((mC (W.str "claim")), (mC (W.int 8))), ((mC (W.str "halve")), (mC (W.int 11))), ((mC (W.str "prove")), (mC (W.int 7)))]) (mGN 2) [w, top, none, a, b] st = .nx [w, top, some (.ref st.length), a, b] (st ++ [.dK sizesK]) := by
  simp [sizesK, mergeW, putKW, keyed]
theorem sk1 : valW sizesK (.inr (Str.ofString "ask")) = some (.int 4) := by simp [sizesK, valW]
theorem sk2 : valW sizesK (.inr (Str.ofString "claim")) = some (.int 8) := by simp [sizesK, valW]
theorem sk3 : valW sizesK (.inr (Str.ofString "halve")) = some (.int 11) := by simp [sizesK, valW]
theorem sk4 : valW sizesK (.inr (Str.ofString "prove")) = some (.int 7) := by simp [sizesK, valW]
theorem sk5 : valW sizesK (.inr (Str.ofString "answer")) = none := by simp [sizesK, valW]
theorem sk6 : valW sizesK (.inr (Str.ofString "x")) = none := by simp [sizesK, valW]
end Gn

namespace Gn
open PySem L2 Mi
abbrev linkM : ME := mAndV (mIsi "tuple" (mVar 3)) (mAndV (mOp mEq (mCB mLen (mCons (mVar 3) mNil)) (mC (W.int 2))) (mIsi "str" (mOp mIx (mVar 3) (mC (W.int 0)))))
theorem q_link (b : W) (h : LR 310 b) (x0 x1 x2 x4 : Option W) (st : Sto) : ∃ k : Bool, linkM [x0, x1, x2, some b, x4] st = .ok (.bl k) st ∧ (k = false → srcB b = numsL (some 65535) (some 16) b) ∧ (k = true → ∃ z n, b = .tup [.str z, n]) := by
  cases b with
  | tup ws =>
    obtain ⟨hl, hi⟩ := h
    match ws, hi with
    | [], _ => exact ⟨false, by simp [sizeLine_eq], fun _ => by simp [srcB], fun z => by cases z⟩
    | [a], _ => exact ⟨false, by simp [sizeLine_eq], fun _ => by simp [srcB], fun z => by cases z⟩
    | a :: b :: c :: r, _ =>
      have h7 : ¬ (r.length : Int) + 1 + 1 + 1 = 2 := by omega
      have hz : r.length + 1 + 1 + 1 ≤ 16777216 := by simp at hl; omega
      exact ⟨false, by simp [sizeLine_eq, h7, hz], fun _ => by simp [srcB], fun z => by cases z⟩
    | [a, b], hp =>
      cases a with
      | str z => exact ⟨true, by simp [sizeLine_eq], (fun e => by cases e), fun _ => ⟨z, b, rfl⟩⟩
      | ref i => exact (hp _ (List.mem_cons_self ..)).elim
      | xst i => exact (hp _ (List.mem_cons_self ..)).elim
      | _ => exact ⟨false, by simp [sizeLine_eq], fun _ => by simp [srcB], fun z => by cases z⟩
  | ref i => cases h
  | xst i => cases h
  | _ => exact ⟨false, by simp [sizeLine_eq], fun _ => by simp [srcB], fun z => by cases z⟩
theorem nums2 (a b : W) : numsL none none (.tup [a, b]) = (numI none a && numI none b) := by simp [numsL]
theorem q_due {n : Nat} (w : W) (h : Lv 310 n w) (top : Int) (st : Sto) : m_L_due [w, .int top] st = .ok (.bl (letB (top + 1) w)) (st ++ [.dK sizesK]) := by
  have hm1 : top + 1 - 1 = top := by omega
  refine def_rt rfl ?_
  show b_L_due [some w, some (.int top), none, none, none] st = _
  unfold b_L_due
  refine seq_nx (due_dict (some w) (some (.int top)) none none st) ?_
  obtain ⟨S, hS⟩ : ∃ S, S = st ++ [Ob.dK sizesK] := ⟨_, rfl⟩
  obtain ⟨D, hD⟩ : ∃ D, D = st.length := ⟨_, rfl⟩
  rw [← hS, ← hD]
  have hK : S[D]? = some (.dK sizesK) := by rw [hS, hD]; simp
  have l1 := sk1
  have l2 := sk2
  have l3 := sk3
  have l4 := sk4
  have l5 := sk5
  have l6 := sk6
  generalize sizesK = KV at *
  cases w with
  | tup ws =>
    cases n with
    | zero => cases h
    | succ n =>
    obtain ⟨hl, hi⟩ := h
    cases ws with
    | nil => exact seq_rt (by simp [letB, sizeLine_eq])
    | cons x xs =>
      have hz : xs.length + 1 ≤ 16777216 := by simp at hl; omega
      have hn0 : ¬ (xs.length : Int) + 1 = 0 := by omega
      have hxx : ∀ y ∈ xs, Lv 310 n y := fun y hy => hi y (by simp [hy])
      have hx := hi x (by simp)
      cases x with
      | str z =>
        have hz6 := hx.six
        simp only [six, List.mem_cons, List.not_mem_nil, or_false] at hz6
        have wrong : ∀ (k : Nat) (zz : Str), valW KV (.inr zz) = some (.int ((k + 1 : Nat) : Int)) → xs.length ≠ k → ∀ (rest : MS), mSeq (mIfS (mTOr (mTNot (mTru (mIsi "tuple" (mVar 0)))) (mTOr (mTest (mOp mEq (mCB mLen (mCons (mVar 0) mNil)) (mC (W.int 0)))) (mTOr (mTNot (mTru (mIsi "str" (mOp mIx (mVar 0) (mC (W.int 0)))))) (mTest (mOp mNe (mDGet2 (mVar 2) (mOp mIx (mVar 0) (mC (W.int 0))) (mC (W.int 0))) (mCB mLen (mCons (mVar 0) mNil))))))) (mRet (mC (W.bl false))) mSkip) rest
            [some (.tup (.str zz :: xs)), some (.int top), some (.ref D), none, none] S = .rt (.bl false) S := by
          intro k zz hk hne rest
          have hne2 : ¬ (k : Int) = (xs.length : Int) := by omega
          have hne3 : ¬ k = xs.length := fun e => hne e.symm
          exact seq_rt (by simp [-mEq, -mNe, mEq_ii, mNe_ii, hn0, hz, hK, hk, hne2, hne3, sizeLine_eq])
        rcases hz6 with rfl | rfl | rfl | rfl | rfl | rfl
        · by_cases hlen : xs.length = 3
          · match xs, hlen, hxx with
            | [a, b, c], _, hxx =>
              have ea := q_nums (K := 310) (by omega) a (hxx a (by simp)).lr (some 65535) (some 239) S
              have eb := q_nums (K := 310) (by omega) b (hxx b (by simp)).lr (some 65535) (some 16) S
              have ec := q_isnum c (some 8) S (hxx c (by simp)).nr
              simp only [oW] at ea eb
              simp only at ec
              have hB : letB (top + 1) (.tup [.str "ask", a, b, c]) = (numsL (some 65535) (some 239) a && srcB b && numI (some 8) c) := by simp [letB, askB]
              rw [hB]
              have v0 : atI [W.str (Str.ofString "ask"), a, b, c] 0 = some (.str (Str.ofString "ask")) := rfl
              have v1 : atI [W.str (Str.ofString "ask"), a, b, c] 1 = some a := rfl
              have v2 : atI [W.str (Str.ofString "ask"), a, b, c] 2 = some b := rfl
              have v3 : atI [W.str (Str.ofString "ask"), a, b, c] 3 = some c := rfl
              refine seq_nx (s1 := [some (.tup [.str (Str.ofString "ask"), a, b, c]), some (.int top), some (.ref D), none, none]) (st1 := S) (by simp [hK, l1, v0, sizeLine_eq]) ?_
              obtain ⟨k, ek, k0, k1⟩ := q_link b (hxx b (by simp)).lr (some (.tup [.str (Str.ofString "ask"), a, b, c])) (some (.int top)) (some (.ref D)) none S
              refine seq_rt ?_
              cases k with
              | false =>
                rw [k0 rfl]
                generalize numsL (some 65535) (some 239) a = A at *
                generalize numsL (some 65535) (some 16) b = B at *
                generalize numI (some 8) c = C at *
                have inner : (mSeq (mAsg (mOp mIx (mVar 0) (mC (W.int 2))) (mGN 3))
                    (mSeq (mAsg linkM (mGN 4))
                    (mSeq (mIfS (mTAnd (mTru (mVar 4)) (mTOr (mTest (mOp mNe (mOp mIx (mVar 3) (mC (W.int 0))) (mC (W.str "answer")))) (mTNot (mTru (mCall 2 m_L_is_number (mCons (mOp mIx (mVar 3) (mC (W.int 1))) (mCons (mC W.non) mNil))))))) (mRet (mC (W.bl false))) mSkip)
                    (mRet (mAndV (mCall 3 m_L_numbers (mCons (mOp mIx (mVar 0) (mC (W.int 1))) (mCons (mC (W.int 65535)) (mCons (mC (W.int 239)) mNil)))) (mAndV (mOrV (mVar 4) (mCall 3 m_L_numbers (mCons (mVar 3) (mCons (mC (W.int 65535)) (mCons (mC (W.int 16)) mNil))))) (mCall 2 m_L_is_number (mCons (mOp mIx (mVar 0) (mC (W.int 3))) (mCons (mC (W.int 8)) mNil))))))))) [some (.tup [.str (Str.ofString "ask"), a, b, c]), some (.int top), some (.ref D), none, none] S = .rt (.bl (A && B && C)) S := by
                  refine seq_nx (s1 := [some (.tup [.str (Str.ofString "ask"), a, b, c]), some (.int top), some (.ref D), some b, none]) (st1 := S) (by simp [v2]) ?_
                  refine seq_nx (s1 := [some (.tup [.str (Str.ofString "ask"), a, b, c]), some (.int top), some (.ref D), some b, some (.bl false)]) (st1 := S) (by simp only [mAsg, ek]; rfl) ?_
                  refine seq_nx (s1 := [some (.tup [.str (Str.ofString "ask"), a, b, c]), some (.int top), some (.ref D), some b, some (.bl false)]) (st1 := S) (by simp) ?_
                  cases A <;> cases B <;> simp [v1, v3, ea, eb, ec]
                have tst : mTest (mOp mEq (mOp mIx (mVar 0) (mC (W.int 0))) (mC (W.str "ask"))) [some (.tup [.str (Str.ofString "ask"), a, b, c]), some (.int top), some (.ref D), none, none] S = .ok true S := by simp [v0]
                simp only [mIfS, tst, Out.run, if_true]
                exact inner
              | true =>
                obtain ⟨z, nn, rfl⟩ := k1 rfl
                have hb := hxx (.tup [.str z, nn]) (by simp)
                have en := q_isnum nn none S (by
                  have := hb.lr
                  exact this.2 nn (by simp))
                have hzok : PyData.strOk z = true := by
                  have := hb.lr
                  exact this.2 (.str z) (by simp)
                simp only at en
                have w0 : atI [W.str z, nn] 0 = some (.str z) := rfl
                have w1 : atI [W.str z, nn] 1 = some nn := rfl
                have hs : srcB (.tup [.str z, nn]) = (decide (z = "answer") && numI none nn) := rfl
                rw [hs]
                generalize numsL (some 65535) (some 239) a = A at *
                generalize numI (some 8) c = C at *
                generalize numI none nn = N at *
                have tst : mTest (mOp mEq (mOp mIx (mVar 0) (mC (W.int 0))) (mC (W.str "ask"))) [some (.tup [.str (Str.ofString "ask"), a, .tup [.str z, nn], c]), some (.int top), some (.ref D), none, none] S = .ok true S := by simp [v0]
                simp only [mIfS, tst, Out.run, if_true]
                refine seq_nx (s1 := [some (.tup [.str (Str.ofString "ask"), a, .tup [.str z, nn], c]), some (.int top), some (.ref D), some (.tup [.str z, nn]), none]) (st1 := S) (by simp [v2]) ?_
                refine seq_nx (s1 := [some (.tup [.str (Str.ofString "ask"), a, .tup [.str z, nn], c]), some (.int top), some (.ref D), some (.tup [.str z, nn]), some (.bl true)]) (st1 := S) (by
                  have ek' := ek
                  simp only [linkM] at ek'
                  simp only [mAsg, ek']; rfl) ?_
                by_cases hza : z = Str.ofString "answer"
                · subst hza
                  cases N with
                  | true =>
                    refine seq_nx (s1 := [some (.tup [.str (Str.ofString "ask"), a, .tup [.str (Str.ofString "answer"), nn], c]), some (.int top), some (.ref D), some (.tup [.str (Str.ofString "answer"), nn]), some (.bl true)]) (st1 := S) (by simp [w0, w1, en]) ?_
                    cases A <;> simp [v1, v3, ea, ec]
                  | false =>
                    refine seq_rt ?_
                    simp [w0, w1, en]
                · refine seq_rt ?_
                  simp [w0, hza, hzok]
          · rw [wrong 3 "ask" l1 hlen]
            simp [letB, ask_len hlen]
        · by_cases hlen : xs.length = 7
          · match xs, hlen, hxx with
            | [nn, r, l, p, g, me, t], _, hxx =>
              have en := q_isnum nn none S (hxx nn (by simp)).nr
              have er := q_nums (K := 310) (by omega) (.tup [r, l, me]) ⟨by simp, fun y hy => by
                simp only [List.mem_cons, List.not_mem_nil, or_false] at hy
                rcases hy with rfl | rfl | rfl <;> exact (hxx _ (by simp)).nr⟩ (some top) none S
              have ep := q_nums (K := 310) (by omega) p (hxx p (by simp)).lr (some top) none S
              have eg := q_regs g (by
                have z := hxx g (by simp)
                cases g with
                | tup gs =>
                  have z2 := z.lr
                  exact ⟨by have := z2.1; omega, z2.2⟩
                | _ => exact z.lr) top S
              have et := q_nums (K := 310) (by omega) t (hxx t (by simp)).lr (some 65535) (some 16) S
              simp only [oW] at er ep et
              simp only at en
              have hB : letB (top + 1) (.tup [.str "claim", nn, r, l, p, g, me, t]) = (numI none nn && numsL (some top) none (.tup [r, l, me]) && numsL (some top) none p && regsB top g && numsL (some 65535) (some 16) t) := by simp [letB, claimB, hm1]
              rw [hB]
              have v0 : atI [W.str (Str.ofString "claim"), nn, r, l, p, g, me, t] 0 = some (.str (Str.ofString "claim")) := rfl
              have v1 : atI [W.str (Str.ofString "claim"), nn, r, l, p, g, me, t] 1 = some nn := rfl
              have v2 : atI [W.str (Str.ofString "claim"), nn, r, l, p, g, me, t] 2 = some r := rfl
              have v3 : atI [W.str (Str.ofString "claim"), nn, r, l, p, g, me, t] 3 = some l := rfl
              have v4 : atI [W.str (Str.ofString "claim"), nn, r, l, p, g, me, t] 4 = some p := rfl
              have v5 : atI [W.str (Str.ofString "claim"), nn, r, l, p, g, me, t] 5 = some g := rfl
              have v6 : atI [W.str (Str.ofString "claim"), nn, r, l, p, g, me, t] 6 = some me := rfl
              have v7 : atI [W.str (Str.ofString "claim"), nn, r, l, p, g, me, t] 7 = some t := rfl
              generalize numI none nn = N at *
              generalize numsL (some top) none (.tup [r, l, me]) = R at *
              generalize numsL (some top) none p = P at *
              generalize regsB top g = G at *
              generalize numsL (some 65535) (some 16) t = T at *
              refine seq_nx (by simp [hK, l2, v0, sizeLine_eq]; exact ⟨rfl, rfl⟩) ?_
              refine seq_nx (by simp [v0, sizeLine_eq]; exact ⟨rfl, rfl⟩) ?_
              cases N
              · exact seq_rt (by simp [v1, en])
              refine seq_nx (by simp [v1, en]; exact ⟨rfl, rfl⟩) ?_
              refine seq_rt ?_
              cases R <;> cases P <;> cases G <;> simp [v0, v2, v3, v4, v5, v6, v7, er, ep, eg, et, sizeLine_eq]
          · rw [wrong 7 "claim" l2 hlen]
            simp [letB, claim_len hlen]
        · by_cases hlen : xs.length = 10
          · match xs, hlen, hxx with
            | [nn, a, b, c1, c2, c3, c4, c5, c6, p], _, hxx =>
              have en := q_isnum nn none S (hxx nn (by simp)).nr
              have ea := q_nums (K := 310) (by omega) (.tup [a, b]) ⟨by simp, fun y hy => by
                simp only [List.mem_cons, List.not_mem_nil, or_false] at hy
                rcases hy with rfl | rfl <;> exact (hxx _ (by simp)).nr⟩ none none S
              have ec := q_nums (K := 310) (by omega) (.tup [c1, c2, c3, c4, c5, c6]) ⟨by simp, fun y hy => by
                simp only [List.mem_cons, List.not_mem_nil, or_false] at hy
                rcases hy with rfl | rfl | rfl | rfl | rfl | rfl <;> exact (hxx _ (by simp)).nr⟩ (some top) none S
              have ep := q_nums (K := 310) (by omega) p (hxx p (by simp)).lr (some top) none S
              simp only [oW] at ea ec ep
              simp only at en
              have hB : letB (top + 1) (.tup [.str "halve", nn, a, b, c1, c2, c3, c4, c5, c6, p]) = (numI none nn && numsL none none (.tup [a, b]) && numsL (some top) none (.tup [c1, c2, c3, c4, c5, c6]) && numsL (some top) none p) := by simp [letB, halveB, hm1, nums2, Bool.and_assoc]
              rw [hB]
              have v0 : atI [W.str (Str.ofString "halve"), nn, a, b, c1, c2, c3, c4, c5, c6, p] 0 = some (.str (Str.ofString "halve")) := rfl
              have v1 : atI [W.str (Str.ofString "halve"), nn, a, b, c1, c2, c3, c4, c5, c6, p] 1 = some nn := rfl
              have v10 : atI [W.str (Str.ofString "halve"), nn, a, b, c1, c2, c3, c4, c5, c6, p] 10 = some p := rfl
              have va : cutW [W.str (Str.ofString "halve"), nn, a, b, c1, c2, c3, c4, c5, c6, p] (some 2) (some 4) = [a, b] := cutMm _ 2 4
              have vc : cutW [W.str (Str.ofString "halve"), nn, a, b, c1, c2, c3, c4, c5, c6, p] (some 4) (some 10) = [c1, c2, c3, c4, c5, c6] := cutMm _ 4 10
              generalize numI none nn = N at *
              generalize numsL none none (.tup [a, b]) = A at *
              generalize numsL (some top) none (.tup [c1, c2, c3, c4, c5, c6]) = C at *
              generalize numsL (some top) none p = P at *
              refine seq_nx (by simp [hK, l3, v0, sizeLine_eq]; exact ⟨rfl, rfl⟩) ?_
              refine seq_nx (by simp [v0, sizeLine_eq]; exact ⟨rfl, rfl⟩) ?_
              cases N
              · exact seq_rt (by simp [v1, en])
              refine seq_nx (by simp [v1, en]; exact ⟨rfl, rfl⟩) ?_
              refine seq_nx (by simp [v0, sizeLine_eq]; exact ⟨rfl, rfl⟩) ?_
              refine seq_rt ?_
              cases A <;> cases C <;> simp [v0, v10, va, vc, ea, ec, ep, sizeLine_eq]
          · rw [wrong 10 "halve" l3 hlen]
            simp [letB, halve_len hlen]
        · by_cases hlen : xs.length = 6
          · match xs, hlen, hxx with
            | [nn, a, d1, d2, d3, y], _, hxx =>
              have en := q_isnum nn none S (hxx nn (by simp)).nr
              have ea := q_isnum a none S (hxx a (by simp)).nr
              have ed := q_nums (K := 310) (by omega) (.tup [d1, d2, d3]) ⟨by simp, fun y hy => by
                simp only [List.mem_cons, List.not_mem_nil, or_false] at hy
                rcases hy with rfl | rfl | rfl <;> exact (hxx _ (by simp)).nr⟩ (some top) none S
              simp only [oW] at ed
              simp only at en ea
              have hB : letB (top + 1) (.tup [.str "prove", nn, a, d1, d2, d3, y]) = (numI none nn && numI none a && numsL (some top) none (.tup [d1, d2, d3])) := by simp [letB, proveB, hm1]
              rw [hB]
              have v0 : atI [W.str (Str.ofString "prove"), nn, a, d1, d2, d3, y] 0 = some (.str (Str.ofString "prove")) := rfl
              have v1 : atI [W.str (Str.ofString "prove"), nn, a, d1, d2, d3, y] 1 = some nn := rfl
              have v2 : atI [W.str (Str.ofString "prove"), nn, a, d1, d2, d3, y] 2 = some a := rfl
              have vc : cutW [W.str (Str.ofString "prove"), nn, a, d1, d2, d3, y] (some 3) (some 6) = [d1, d2, d3] := cutMm _ 3 6
              generalize numI none nn = N at *
              generalize numI none a = A at *
              generalize numsL (some top) none (.tup [d1, d2, d3]) = C at *
              refine seq_nx (by simp [hK, l4, v0, sizeLine_eq]; exact ⟨rfl, rfl⟩) ?_
              refine seq_nx (by simp [v0, sizeLine_eq]; exact ⟨rfl, rfl⟩) ?_
              cases N
              · exact seq_rt (by simp [v1, en])
              refine seq_nx (by simp [v1, en]; exact ⟨rfl, rfl⟩) ?_
              refine seq_nx (by simp [v0, sizeLine_eq]; exact ⟨rfl, rfl⟩) ?_
              refine seq_nx (by simp [v0, sizeLine_eq]; exact ⟨rfl, rfl⟩) ?_
              cases A <;> cases C <;> simp [v2, vc, ea, ed, sizeLine_eq]
          · rw [wrong 6 "prove" l4 hlen]
            simp [letB, prove_len hlen]
        · have hne : ¬ (0 : Int) = (xs.length : Int) + 1 := by omega
          exact seq_rt (by simp [-mEq, -mNe, mEq_ii, mNe_ii, hn0, hz, hK, l5, hne, sizeLine_eq, letB])
        · have hne : ¬ (0 : Int) = (xs.length : Int) + 1 := by omega
          exact seq_rt (by simp [-mEq, -mNe, mEq_ii, mNe_ii, hn0, hz, hK, l6, hne, sizeLine_eq, letB])
      | ref i => cases n <;> cases hx
      | xst i => cases n <;> cases hx
      | _ => exact seq_rt (by simp [-mEq, mEq_ii, hn0, hz, sizeLine_eq, letB])
  | ref i => cases n <;> cases h
  | xst i => cases n <;> cases h
  | _ => exact seq_rt (by simp [letB])
end Gn

namespace Gn
open PySem L2 Mi
def odd1 : List W := [.non, .bl true, .bl false, .int (-1), .int 0, .int 1, .int 9, .int 17, .int 126, .int 127, .int 65535, .int 65536, .int 2305843009213693951, .str "ask", .str "claim", .str "halve", .str "prove", .str "answer"]
def odd2 : List W := [.tup [], .tup [.int 0], .tup [.int 65536], .lst [.int 0], .tup [.str "answer", .int 0], .tup (List.replicate 17 (.int 0))]
theorem odd_lv : ∀ x ∈ odd1 ++ odd2, Lv 300 1 x := by
  intro x hx
  simp only [odd1, odd2, List.cons_append, List.nil_append, List.mem_cons, List.not_mem_nil, or_false] at hx
  rcases hx with rfl | rfl | rfl | rfl | rfl | rfl | rfl | rfl | rfl | rfl | rfl | rfl | rfl | rfl | rfl | rfl | rfl | rfl | rfl | rfl | rfl | rfl | rfl | rfl
  all_goals first
    | exact Lv.int
    | exact Lv.str (by simp [six])
    | exact Lv.rep (by omega)
    | trivial
    | (refine ⟨by simp, fun y hy => ?_⟩; simp at hy; done)
    | (refine ⟨by simp, fun y hy => ?_⟩
       simp at hy
       subst hy
       exact Lv.int)
    | (refine ⟨by simp, fun y hy => ?_⟩
       simp at hy
       rcases hy with rfl | rfl
       · exact Lv.str (by simp [six])
       · exact Lv.int)
theorem t_turn {i j t : Nat} (ht : t < 2) (w : W) (hw : Lv (300 + t) (3 + t) w) (x0 x1 x5 x6 x7 : Option W) (st : Sto) (hb : Bag3 st i) :
    ∃ w' y7 st', l0_law [x0, x1, some (.ref i), some (.ref j), some w, x5, x6, x7] st = .nx [x0, x1, some (.ref i), some (.ref j), some w', x5, x6, y7] st' ∧ D3 i st st' ∧ Lv (300 + (t + 1)) (3 + (t + 1)) w' := by
  obtain ⟨d, s1, e1, k1, d0, d1⟩ := t_draw st i 24 hb (by omega) (by omega)
  obtain ⟨d, rfl⟩ : ∃ n : Nat, d = (n : Int) := ⟨d.toNat, by omega⟩
  have hl : (odd1 ++ odd2).length = 24 := rfl
  have hd : d < (odd1 ++ odd2).length := by omega
  have hat : atI (odd1 ++ odd2) (d : Int) = some (odd1 ++ odd2)[d] := atI_nn (by omega) (by rw [Int.toNat_natCast]; exact List.getElem?_eq_getElem hd)
  have ho := odd_lv _ (List.getElem_mem hd)
  generalize (odd1 ++ odd2)[d] = o at hat ho
  obtain ⟨w', s2, e2, k2, hw'⟩ := t_spoilt (K := 300 + t) (by omega) i o (Lv.mono (by omega) (by omega) ho) 8 (3 + t) w s1 (by omega) hw k1.b
  refine ⟨w', some (.lst (odd1 ++ odd2)), s2, ?_, k1.trans k2, hw'⟩
  unfold l0_law
  refine seq_nx (s1 := [x0, x1, some (.ref i), some (.ref j), some w, x5, x6, some (.lst odd1)]) (st1 := st) (by simp [odd1, sizeLine_eq]) ?_
  refine seq_nx (s1 := [x0, x1, some (.ref i), some (.ref j), some w, x5, x6, some (.lst (odd1 ++ odd2))]) (st1 := st) (by
    have hz : odd1.length + 6 ≤ 16777216 := by decide
    simp [odd2, sizeLine_eq, flat1, hz]) ?_
  generalize odd1 ++ odd2 = O at *
  simp [e1, hat, e2]
theorem t_cell (ns : List Int) (hn : ns.length ≤ 63) (k : Nat) (x2 x3 x4 x5 x6 x7 : Option W) (st : Sto) :
    ∃ y2 y3 y4 y5 y6 y7 st', l1_law [some (.xst (ns.map W.int)), some (.int (k : Int)), x2, x3, x4, x5, x6, x7] st = .nx [some (.xst (ns.map W.int)), some (.int (k : Int)), y2, y3, y4, y5, y6, y7] st' := by
  obtain ⟨s1, e1, b1, o1⟩ := t_bag ns k st hn
  obtain ⟨i, hi⟩ : ∃ i, i = st.length := ⟨_, rfl⟩
  rw [← hi] at e1 b1
  have li : i < s1.length := by obtain ⟨a, b, c, h⟩ := b1; exact (List.getElem?_eq_some_iff.mp h).1
  obtain ⟨r, s2, e2, k2, r0, r1⟩ := t_draw s1 i 4 b1 (by omega) (by omega)
  have hl2 : i < s2.length := Nat.lt_of_lt_of_le li k2.o.1
  obtain ⟨b, hbb, hb⟩ : ∃ b : Nat, atI [W.int 7, .int 13, .int 31, .int 61] r = some (.int (b : Int)) ∧ b ≤ 61 := by
    have : r = 0 ∨ r = 1 ∨ r = 2 ∨ r = 3 := by omega
    rcases this with rfl | rfl | rfl | rfl
    · exact ⟨7, rfl, by omega⟩
    · exact ⟨13, rfl, by omega⟩
    · exact ⟨31, rfl, by omega⟩
    · exact ⟨61, rfl, by omega⟩
  obtain ⟨m, hm⟩ : ∃ m : Int, m = 2 ^ b - 1 := ⟨_, rfl⟩
  have ed : m_Digests_init [.ref s2.length, .int (b : Int), .non] (s2 ++ [.ins 0 []]) = .ok .non (s2 ++ [.ins 0 [("_bits", .int (b : Int)), ("_modulus", .int m), ("_book", .non)]]) := by
    have h1 : (0 : Int) ≤ b := by omega
    have h2 : (b : Int) ≤ 1000000 := by omega
    simp only [m_Digests_init, b_Digests_init]
    simp [h1, h2, putW, hm]
  obtain ⟨s3, hs3⟩ : ∃ s3, s3 = s2 ++ [Ob.ins 0 [("_bits", .int (b : Int)), ("_modulus", .int m), ("_book", .non)]] := ⟨_, rfl⟩
  obtain ⟨j, hj⟩ : ∃ j, j = s2.length := ⟨_, rfl⟩
  rw [← hs3, ← hj] at ed
  have hj3 : s3[j]? = some (.ins 0 [("_bits", .int (b : Int)), ("_modulus", .int m), ("_book", .non)]) := by rw [hs3, hj]; simp
  have hji : j ≠ i := by omega
  have b3 : Bag3 s3 i := by
    obtain ⟨x, y, z, h⟩ := k2.b
    exact ⟨x, y, z, by rw [hs3]; exact app_lt0 h⟩
  obtain ⟨w, s4, e4, k4, hw⟩ := t_right b3 ⟨_, hj3⟩ hji
  have hj4 := k4.rd hj3 hji
  obtain ⟨q, s5, e5, k5, q0, q1⟩ := t_draw s4 i 3 k4.b (by omega) (by omega)
  have hj5 := k5.rd hj4 hji
  obtain ⟨N, hN⟩ : ∃ N : Nat, q = (N : Int) := ⟨q.toNat, by omega⟩
  obtain ⟨S6, s6, hlp, w6, ⟨y5, y7, rfl⟩, hw6, b6, hj6⟩ := loop_st (ws := rngW 0 N) (g := mGN 5) (n := N) (s := [some (.xst (ns.map W.int)), some (.int (k : Int)), some (.ref i), some (.ref j), some w, x5, x6, x7]) (st := s5) (body := l0_law) (rngW_len 0 N)
    (fun t s st => ∃ w, (∃ y5 y7 : Option W, s = [some (.xst (ns.map W.int)), some (.int (k : Int)), some (.ref i), some (.ref j), some w, y5, x6, y7]) ∧ Lv (300 + t) (3 + t) w ∧ Bag3 st i ∧ st[j]? = some (.ins 0 [("_bits", .int (b : Int)), ("_modulus", .int m), ("_book", .non)]))
    ⟨w, ⟨_, _, rfl⟩, hw, k5.b, hj5⟩ (by
      rintro t v s st hv ⟨w, ⟨y5, y7, rfl⟩, hw, hb, hj⟩
      have ht : t < N := by
        have := (List.getElem?_eq_some_iff.mp hv).1
        rwa [rngW_len] at this
      refine ⟨_, _, rfl, ?_⟩
      obtain ⟨w', y7', st', e, kk, hw'⟩ := t_turn (i := i) (j := j) (t := t) (by omega) w hw (some (.xst (ns.map W.int))) (some (.int (k : Int))) (some v) x6 y7 st hb
      simp only [mGN, List.set]
      rw [e]
      exact ⟨w', ⟨_, _, rfl⟩, hw', kk.b, kk.rd hj hji⟩)
  have hw7 : Lv 310 (3 + N) w6 := Lv.mono (by omega) (Nat.le_refl _) hw6
  have e7 := p_letter (m := m) ⟨_, hj6⟩ w6 hw7
  have e8 := q_due w6 hw7 (m - 1) s6
  have em : m_Digests_modulus [.ref j] s6 = .ok (.int m) s6 := by
    simp only [m_Digests_modulus, b_Digests_modulus]
    simp [hj6]
  rw [show m - 1 + 1 = m by omega] at e8
  generalize letB m w6 = L at e7 e8
  generalize (s6 ++ [Ob.dK sizesK]) = s9 at e8
  refine ⟨some (.ref i), some (.ref j), some w6, y5, some (.bl L), y7, s9, ?_⟩
  unfold l1_law
  refine seq_nx (s1 := [some (.xst (ns.map W.int)), some (.int (k : Int)), some (.ref i), x3, x4, x5, x6, x7]) (st1 := s1) (by simp [e1]) ?_
  refine seq_nx (s1 := [some (.xst (ns.map W.int)), some (.int (k : Int)), some (.ref i), some (.ref j), x4, x5, x6, x7]) (st1 := s3) (by
    have ed' := ed
    rw [hj] at ed' hj3 ⊢
    simp [sizeLine_eq, e2, hbb, ed', hj3]) ?_
  refine seq_nx (s1 := [some (.xst (ns.map W.int)), some (.int (k : Int)), some (.ref i), some (.ref j), some w, x5, x6, x7]) (st1 := s4) (by simp [e4]) ?_
  refine seq_nx (mFor_vals (rng1_nat (k := N) (st1 := s5) (by simp [e5, hN]) (by omega)) (rngW_len 0 N) hlp) ?_
  refine seq_nx (s1 := [some (.xst (ns.map W.int)), some (.int (k : Int)), some (.ref i), some (.ref j), some w6, y5, some (.bl L), y7]) (st1 := s6) (by simp [e7]) ?_
  have nb : ∀ st, mNe (.bl L) (.bl L) st = .ok (.bl false) st := fun st => by simp
  simp [-mNe, nb, hj6, em, e8]
theorem law_true : ∀ ns : List Int, ns.length ≤ 63 → (∀ z ∈ ns, Builtin.Int.intBits z ≤ 1048576) → ∃ st, m_law [.xst (ns.map W.int)] [] = .ok (.bl true) st := by
  intro ns hn _
  obtain ⟨N, hN, hN2⟩ : ∃ N : Nat, max 1 (min 20 (ns.length : Int)) = (N : Int) ∧ N ≤ 100 := ⟨(max 1 (min 20 (ns.length : Int))).toNat, by omega, by omega⟩
  obtain ⟨S, s1, hlp, ⟨y1, y2, y3, y4, y5, y6, y7, rfl⟩⟩ := loop_nx (ws := rngW 0 N) (g := mGN 1) (n := N) (s := [some (.xst (ns.map W.int)), none, none, none, none, none, none, none]) (st := []) (body := l1_law) (rngW_len 0 N)
    (fun i s st => ∃ y1 y2 y3 y4 y5 y6 y7, s = [some (.xst (ns.map W.int)), y1, y2, y3, y4, y5, y6, y7])
    ⟨_, _, _, _, _, _, _, rfl⟩ (by
      rintro i w s st hw ⟨y1, y2, y3, y4, y5, y6, y7, rfl⟩
      obtain ⟨k, hk, rfl⟩ := mem_rng0 (List.mem_of_getElem? hw)
      obtain ⟨z2, z3, z4, z5, z6, z7, st', e⟩ := t_cell ns hn k y2 y3 y4 y5 y6 y7 st
      exact ⟨_, _, rfl, _, _, .inl e, _, _, _, _, _, _, _, rfl⟩)
  have hz : ns.length ≤ 16777216 := by omega
  refine ⟨s1, def_rt rfl ?_⟩
  show b_law [some (.xst (ns.map W.int)), none, none, none, none, none, none, none] [] = _
  unfold b_law
  refine seq_nx (mFor_vals (rng1_nat (k := N) (st1 := []) (by simp [sizeLine_eq, hz, hN]) (by omega)) (rngW_len 0 N) hlp) ?_
  simp
end Gn

namespace Gn
open PySem L2 Mi
/-! ### what the top has written -/
theorem all_mk {l : PySem.W.OpenLaw} {w : World} {K : PySem.W.Frag} {h : Heap} {mg : Str → Option Value} {fa : Addr} (X : K.In h) (G : h.Ns mainGlobals mg) (hfa : mg "law" = some (.ref fa))
    {f_L_bag : Addr} {od_L_bag an_L_bag : Option Addr} {sl_L_bag : Array (Option Value)} {oc_L_bag kV_L_bag dc_L_bag pm_L_bag cd_L_bag ct_L_bag : Value}
    {f_Digests_init : Addr} {od_Digests_init an_Digests_init : Option Addr} {sl_Digests_init : Array (Option Value)} {oc_Digests_init kV_Digests_init dc_Digests_init pm_Digests_init cd_Digests_init ct_Digests_init : Value}
    {f_L_draw : Addr} {od_L_draw an_L_draw : Option Addr} {sl_L_draw : Array (Option Value)} {oc_L_draw kV_L_draw dc_L_draw pm_L_draw cd_L_draw ct_L_draw : Value}
    {f_Digests_modulus : Addr} {od_Digests_modulus an_Digests_modulus : Option Addr} {sl_Digests_modulus : Array (Option Value)} {oc_Digests_modulus kV_Digests_modulus dc_Digests_modulus pm_Digests_modulus cd_Digests_modulus ct_Digests_modulus : Value}
    {f_L_right : Addr} {od_L_right an_L_right : Option Addr} {sl_L_right : Array (Option Value)} {oc_L_right kV_L_right dc_L_right pm_L_right cd_L_right ct_L_right : Value}
    {f_L_spoilt : Addr} {od_L_spoilt an_L_spoilt : Option Addr} {sl_L_spoilt : Array (Option Value)} {oc_L_spoilt kV_L_spoilt dc_L_spoilt pm_L_spoilt cd_L_spoilt ct_L_spoilt : Value}
    {f_is_integer : Addr} {od_is_integer an_is_integer : Option Addr} {sl_is_integer : Array (Option Value)} {oc_is_integer kV_is_integer dc_is_integer pm_is_integer cd_is_integer ct_is_integer : Value}
    {f_is_word : Addr} {od_is_word an_is_word : Option Addr} {sl_is_word : Array (Option Value)} {oc_is_word kV_is_word dc_is_word pm_is_word cd_is_word ct_is_word : Value}
    {f_is_row : Addr} {od_is_row an_is_row : Option Addr} {sl_is_row : Array (Option Value)} {oc_is_row kV_is_row dc_is_row pm_is_row cd_is_row ct_is_row : Value}
    {f_is_number : Addr} {od_is_number an_is_number : Option Addr} {sl_is_number : Array (Option Value)} {oc_is_number kV_is_number dc_is_number pm_is_number cd_is_number ct_is_number : Value}
    {f_is_source : Addr} {od_is_source an_is_source : Option Addr} {sl_is_source : Array (Option Value)} {oc_is_source kV_is_source dc_is_source pm_is_source cd_is_source ct_is_source : Value}
    {f_Digests_is_digest : Addr} {od_Digests_is_digest an_Digests_is_digest : Option Addr} {sl_Digests_is_digest : Array (Option Value)} {oc_Digests_is_digest kV_Digests_is_digest dc_Digests_is_digest pm_Digests_is_digest cd_Digests_is_digest ct_Digests_is_digest : Value}
    {f_are_digests : Addr} {od_are_digests an_are_digests : Option Addr} {sl_are_digests : Array (Option Value)} {oc_are_digests kV_are_digests dc_are_digests pm_are_digests cd_are_digests ct_are_digests : Value}
    {f_are_registers : Addr} {od_are_registers an_are_registers : Option Addr} {sl_are_registers : Array (Option Value)} {oc_are_registers kV_are_registers dc_are_registers pm_are_registers cd_are_registers ct_are_registers : Value}
    {f_is_letter : Addr} {od_is_letter an_is_letter : Option Addr} {sl_is_letter : Array (Option Value)} {oc_is_letter kV_is_letter dc_is_letter pm_is_letter cd_is_letter ct_is_letter : Value}
    {f_L_is_number : Addr} {od_L_is_number an_L_is_number : Option Addr} {sl_L_is_number : Array (Option Value)} {oc_L_is_number kV_L_is_number dc_L_is_number pm_L_is_number cd_L_is_number ct_L_is_number : Value}
    {f_L_numbers : Addr} {od_L_numbers an_L_numbers : Option Addr} {sl_L_numbers : Array (Option Value)} {oc_L_numbers kV_L_numbers dc_L_numbers pm_L_numbers cd_L_numbers ct_L_numbers : Value}
    {f_L_registers : Addr} {od_L_registers an_L_registers : Option Addr} {sl_L_registers : Array (Option Value)} {oc_L_registers kV_L_registers dc_L_registers pm_L_registers cd_L_registers ct_L_registers : Value}
    {f_L_due : Addr} {od_L_due an_L_due : Option Addr} {sl_L_due : Array (Option Value)} {oc_L_due kV_L_due dc_L_due pm_L_due cd_L_due ct_L_due : Value}
    {f_law : Addr} {od_law an_law : Option Addr} {sl_law : Array (Option Value)} {oc_law kV_law dc_law pm_law cd_law ct_law : Value}
    {C_Digests : Addr}
    {t_MOST_WORD : Tok}
    {t_MOST_INPUTS : Tok}
    {t_PLACES : Tok}
    {p_MARKS : Addr} {qd_MARKS : Option Addr} {qs_MARKS : Array (Option Value)} {qi_MARKS : Array Value} {qn_MARKS : Nat}
    {t_MOST_TOLD : Tok}
    {t_MOST_IMAGE : Tok}
    {t_MOST_LEVEL : Tok}
    {p_SIZES : Addr} {es_SIZES : Array DictEntry} {en_SIZES : Nat}
    {t3_SIZES : Tok}
    {t2_SIZES : Tok}
    {t1_SIZES : Tok}
    {t0_SIZES : Tok}
    (aC_Digests : PySem.W.nsIn K mainGlobals "Digests" = some (some (.ref C_Digests)))
    (a_L_bag : PySem.W.nsIn K mainGlobals "_law_bag" = some (some (.ref f_L_bag)))
    (l_L_bag : K.lookup f_L_bag = some ⟨oc_L_bag, od_L_bag, .func (PySem.W.fnOf "_law_bag" "_law_bag" (defArgs s_L_bag) (defBody s_L_bag) (defScope s_L_bag) .none kV_L_bag dc_L_bag pm_L_bag an_L_bag cd_L_bag ct_L_bag), sl_L_bag⟩)
    (c_L_bag : PySem.W.codeIn K cd_L_bag "_law_bag" = true)
    (k_L_bag : PySem.W.keepIn K (.ref f_L_bag) = true)
    (a_Digests_init : PySem.W.findIn K (.ref C_Digests) "__init__" = some (some (.ref f_Digests_init)))
    (i_Digests_init : PySem.W.isFn K (.ref f_Digests_init) = true)
    (l_Digests_init : K.lookup f_Digests_init = some ⟨oc_Digests_init, od_Digests_init, .func (PySem.W.fnOf "__init__" "Digests.__init__" (defArgs s_Digests_init) (defBody s_Digests_init) (defScope s_Digests_init) .none kV_Digests_init dc_Digests_init pm_Digests_init an_Digests_init cd_Digests_init ct_Digests_init), sl_Digests_init⟩)
    (c_Digests_init : PySem.W.codeIn K cd_Digests_init "Digests.__init__" = true)
    (k_Digests_init : PySem.W.keepIn K (.ref f_Digests_init) = true)
    (a_L_draw : PySem.W.nsIn K mainGlobals "_law_draw" = some (some (.ref f_L_draw)))
    (l_L_draw : K.lookup f_L_draw = some ⟨oc_L_draw, od_L_draw, .func (PySem.W.fnOf "_law_draw" "_law_draw" (defArgs s_L_draw) (defBody s_L_draw) (defScope s_L_draw) .none kV_L_draw dc_L_draw pm_L_draw an_L_draw cd_L_draw ct_L_draw), sl_L_draw⟩)
    (c_L_draw : PySem.W.codeIn K cd_L_draw "_law_draw" = true)
    (k_L_draw : PySem.W.keepIn K (.ref f_L_draw) = true)
    (a_Digests_modulus : PySem.W.findIn K (.ref C_Digests) "modulus" = some (some (.ref f_Digests_modulus)))
    (i_Digests_modulus : PySem.W.isFn K (.ref f_Digests_modulus) = true)
    (l_Digests_modulus : K.lookup f_Digests_modulus = some ⟨oc_Digests_modulus, od_Digests_modulus, .func (PySem.W.fnOf "modulus" "Digests.modulus" (defArgs s_Digests_modulus) (defBody s_Digests_modulus) (defScope s_Digests_modulus) .none kV_Digests_modulus dc_Digests_modulus pm_Digests_modulus an_Digests_modulus cd_Digests_modulus ct_Digests_modulus), sl_Digests_modulus⟩)
    (c_Digests_modulus : PySem.W.codeIn K cd_Digests_modulus "Digests.modulus" = true)
    (k_Digests_modulus : PySem.W.keepIn K (.ref f_Digests_modulus) = true)
    (a_L_right : PySem.W.nsIn K mainGlobals "_law_right" = some (some (.ref f_L_right)))
    (l_L_right : K.lookup f_L_right = some ⟨oc_L_right, od_L_right, .func (PySem.W.fnOf "_law_right" "_law_right" (defArgs s_L_right) (defBody s_L_right) (defScope s_L_right) .none kV_L_right dc_L_right pm_L_right an_L_right cd_L_right ct_L_right), sl_L_right⟩)
    (c_L_right : PySem.W.codeIn K cd_L_right "_law_right" = true)
    (k_L_right : PySem.W.keepIn K (.ref f_L_right) = true)
    (a_L_spoilt : PySem.W.nsIn K mainGlobals "_law_spoilt" = some (some (.ref f_L_spoilt)))
    (l_L_spoilt : K.lookup f_L_spoilt = some ⟨oc_L_spoilt, od_L_spoilt, .func (PySem.W.fnOf "_law_spoilt" "_law_spoilt" (defArgs s_L_spoilt) (defBody s_L_spoilt) (defScope s_L_spoilt) .none kV_L_spoilt dc_L_spoilt pm_L_spoilt an_L_spoilt cd_L_spoilt ct_L_spoilt), sl_L_spoilt⟩)
    (c_L_spoilt : PySem.W.codeIn K cd_L_spoilt "_law_spoilt" = true)
    (k_L_spoilt : PySem.W.keepIn K (.ref f_L_spoilt) = true)
    (a_is_integer : PySem.W.nsIn K mainGlobals "is_integer" = some (some (.ref f_is_integer)))
    (l_is_integer : K.lookup f_is_integer = some ⟨oc_is_integer, od_is_integer, .func (PySem.W.fnOf "is_integer" "is_integer" (defArgs s_is_integer) (defBody s_is_integer) (defScope s_is_integer) .none kV_is_integer dc_is_integer pm_is_integer an_is_integer cd_is_integer ct_is_integer), sl_is_integer⟩)
    (c_is_integer : PySem.W.codeIn K cd_is_integer "is_integer" = true)
    (k_is_integer : PySem.W.keepIn K (.ref f_is_integer) = true)
    (a_is_word : PySem.W.nsIn K mainGlobals "is_word" = some (some (.ref f_is_word)))
    (l_is_word : K.lookup f_is_word = some ⟨oc_is_word, od_is_word, .func (PySem.W.fnOf "is_word" "is_word" (defArgs s_is_word) (defBody s_is_word) (defScope s_is_word) .none kV_is_word dc_is_word pm_is_word an_is_word cd_is_word ct_is_word), sl_is_word⟩)
    (c_is_word : PySem.W.codeIn K cd_is_word "is_word" = true)
    (k_is_word : PySem.W.keepIn K (.ref f_is_word) = true)
    (a_is_row : PySem.W.nsIn K mainGlobals "is_row" = some (some (.ref f_is_row)))
    (l_is_row : K.lookup f_is_row = some ⟨oc_is_row, od_is_row, .func (PySem.W.fnOf "is_row" "is_row" (defArgs s_is_row) (defBody s_is_row) (defScope s_is_row) .none kV_is_row dc_is_row pm_is_row an_is_row cd_is_row ct_is_row), sl_is_row⟩)
    (c_is_row : PySem.W.codeIn K cd_is_row "is_row" = true)
    (k_is_row : PySem.W.keepIn K (.ref f_is_row) = true)
    (a_is_number : PySem.W.nsIn K mainGlobals "is_number" = some (some (.ref f_is_number)))
    (l_is_number : K.lookup f_is_number = some ⟨oc_is_number, od_is_number, .func (PySem.W.fnOf "is_number" "is_number" (defArgs s_is_number) (defBody s_is_number) (defScope s_is_number) .none kV_is_number dc_is_number pm_is_number an_is_number cd_is_number ct_is_number), sl_is_number⟩)
    (c_is_number : PySem.W.codeIn K cd_is_number "is_number" = true)
    (k_is_number : PySem.W.keepIn K (.ref f_is_number) = true)
    (a_is_source : PySem.W.nsIn K mainGlobals "is_source" = some (some (.ref f_is_source)))
    (l_is_source : K.lookup f_is_source = some ⟨oc_is_source, od_is_source, .func (PySem.W.fnOf "is_source" "is_source" (defArgs s_is_source) (defBody s_is_source) (defScope s_is_source) .none kV_is_source dc_is_source pm_is_source an_is_source cd_is_source ct_is_source), sl_is_source⟩)
    (c_is_source : PySem.W.codeIn K cd_is_source "is_source" = true)
    (k_is_source : PySem.W.keepIn K (.ref f_is_source) = true)
    (a_Digests_is_digest : PySem.W.findIn K (.ref C_Digests) "is_digest" = some (some (.ref f_Digests_is_digest)))
    (i_Digests_is_digest : PySem.W.isFn K (.ref f_Digests_is_digest) = true)
    (l_Digests_is_digest : K.lookup f_Digests_is_digest = some ⟨oc_Digests_is_digest, od_Digests_is_digest, .func (PySem.W.fnOf "is_digest" "Digests.is_digest" (defArgs s_Digests_is_digest) (defBody s_Digests_is_digest) (defScope s_Digests_is_digest) .none kV_Digests_is_digest dc_Digests_is_digest pm_Digests_is_digest an_Digests_is_digest cd_Digests_is_digest ct_Digests_is_digest), sl_Digests_is_digest⟩)
    (c_Digests_is_digest : PySem.W.codeIn K cd_Digests_is_digest "Digests.is_digest" = true)
    (k_Digests_is_digest : PySem.W.keepIn K (.ref f_Digests_is_digest) = true)
    (a_are_digests : PySem.W.nsIn K mainGlobals "are_digests" = some (some (.ref f_are_digests)))
    (l_are_digests : K.lookup f_are_digests = some ⟨oc_are_digests, od_are_digests, .func (PySem.W.fnOf "are_digests" "are_digests" (defArgs s_are_digests) (defBody s_are_digests) (defScope s_are_digests) .none kV_are_digests dc_are_digests pm_are_digests an_are_digests cd_are_digests ct_are_digests), sl_are_digests⟩)
    (c_are_digests : PySem.W.codeIn K cd_are_digests "are_digests" = true)
    (k_are_digests : PySem.W.keepIn K (.ref f_are_digests) = true)
    (a_are_registers : PySem.W.nsIn K mainGlobals "are_registers" = some (some (.ref f_are_registers)))
    (l_are_registers : K.lookup f_are_registers = some ⟨oc_are_registers, od_are_registers, .func (PySem.W.fnOf "are_registers" "are_registers" (defArgs s_are_registers) (defBody s_are_registers) (defScope s_are_registers) .none kV_are_registers dc_are_registers pm_are_registers an_are_registers cd_are_registers ct_are_registers), sl_are_registers⟩)
    (c_are_registers : PySem.W.codeIn K cd_are_registers "are_registers" = true)
    (k_are_registers : PySem.W.keepIn K (.ref f_are_registers) = true)
    (a_is_letter : PySem.W.nsIn K mainGlobals "is_letter" = some (some (.ref f_is_letter)))
    (l_is_letter : K.lookup f_is_letter = some ⟨oc_is_letter, od_is_letter, .func (PySem.W.fnOf "is_letter" "is_letter" (defArgs s_is_letter) (defBody s_is_letter) (defScope s_is_letter) .none kV_is_letter dc_is_letter pm_is_letter an_is_letter cd_is_letter ct_is_letter), sl_is_letter⟩)
    (c_is_letter : PySem.W.codeIn K cd_is_letter "is_letter" = true)
    (k_is_letter : PySem.W.keepIn K (.ref f_is_letter) = true)
    (a_L_is_number : PySem.W.nsIn K mainGlobals "_law_is_number" = some (some (.ref f_L_is_number)))
    (l_L_is_number : K.lookup f_L_is_number = some ⟨oc_L_is_number, od_L_is_number, .func (PySem.W.fnOf "_law_is_number" "_law_is_number" (defArgs s_L_is_number) (defBody s_L_is_number) (defScope s_L_is_number) .none kV_L_is_number dc_L_is_number pm_L_is_number an_L_is_number cd_L_is_number ct_L_is_number), sl_L_is_number⟩)
    (c_L_is_number : PySem.W.codeIn K cd_L_is_number "_law_is_number" = true)
    (k_L_is_number : PySem.W.keepIn K (.ref f_L_is_number) = true)
    (a_L_numbers : PySem.W.nsIn K mainGlobals "_law_numbers" = some (some (.ref f_L_numbers)))
    (l_L_numbers : K.lookup f_L_numbers = some ⟨oc_L_numbers, od_L_numbers, .func (PySem.W.fnOf "_law_numbers" "_law_numbers" (defArgs s_L_numbers) (defBody s_L_numbers) (defScope s_L_numbers) .none kV_L_numbers dc_L_numbers pm_L_numbers an_L_numbers cd_L_numbers ct_L_numbers), sl_L_numbers⟩)
    (c_L_numbers : PySem.W.codeIn K cd_L_numbers "_law_numbers" = true)
    (k_L_numbers : PySem.W.keepIn K (.ref f_L_numbers) = true)
    (a_L_registers : PySem.W.nsIn K mainGlobals "_law_registers" = some (some (.ref f_L_registers)))
    (l_L_registers : K.lookup f_L_registers = some ⟨oc_L_registers, od_L_registers, .func (PySem.W.fnOf "_law_registers" "_law_registers" (defArgs s_L_registers) (defBody s_L_registers) (defScope s_L_registers) .none kV_L_registers dc_L_registers pm_L_registers an_L_registers cd_L_registers ct_L_registers), sl_L_registers⟩)
    (c_L_registers : PySem.W.codeIn K cd_L_registers "_law_registers" = true)
    (k_L_registers : PySem.W.keepIn K (.ref f_L_registers) = true)
    (a_L_due : PySem.W.nsIn K mainGlobals "_law_due" = some (some (.ref f_L_due)))
    (l_L_due : K.lookup f_L_due = some ⟨oc_L_due, od_L_due, .func (PySem.W.fnOf "_law_due" "_law_due" (defArgs s_L_due) (defBody s_L_due) (defScope s_L_due) .none kV_L_due dc_L_due pm_L_due an_L_due cd_L_due ct_L_due), sl_L_due⟩)
    (c_L_due : PySem.W.codeIn K cd_L_due "_law_due" = true)
    (k_L_due : PySem.W.keepIn K (.ref f_L_due) = true)
    (a_law : PySem.W.nsIn K mainGlobals "law" = some (some (.ref f_law)))
    (l_law : K.lookup f_law = some ⟨oc_law, od_law, .func (PySem.W.fnOf "law" "law" (defArgs s_law) (defBody s_law) (defScope s_law) .none kV_law dc_law pm_law an_law cd_law ct_law), sl_law⟩)
    (c_law : PySem.W.codeIn K cd_law "law" = true)
    (k_law : PySem.W.keepIn K (.ref f_law) = true)
    (pg_Digests : PySem.W.plainGet K C_Digests Str.empty = true)
    (hd_Digests : PySem.W.hasDictIn K C_Digests = true)
    (po_Digests : PySem.W.plainOver K C_Digests = true)
    (sa_Digests : PySem.W.findIn K (.ref C_Digests) "__setattr__" = some (some (.builtin "object.__setattr__")))
    (mk_Digests : PySem.W.makesIn K C_Digests = true)
    (kc_Digests : PySem.W.keepIn K (.ref C_Digests) = true)
    (n_Digests__bits : PySem.W.findIn K (.ref C_Digests) "_bits" = some none)
    (n_Digests__modulus : PySem.W.findIn K (.ref C_Digests) "_modulus" = some none)
    (n_Digests__book : PySem.W.findIn K (.ref C_Digests) "_book" = some none)
    (v_MOST_WORD : PySem.W.nsIn K mainGlobals "MOST_WORD" = some (some (.int 65535 t_MOST_WORD)))
    (v_MOST_INPUTS : PySem.W.nsIn K mainGlobals "MOST_INPUTS" = some (some (.int 16 t_MOST_INPUTS)))
    (v_PLACES : PySem.W.nsIn K mainGlobals "PLACES" = some (some (.int 256 t_PLACES)))
    (v_MARKS : PySem.W.nsIn K mainGlobals "MARKS" = some (some (.ref p_MARKS)))
    (q_MARKS : K.lookup p_MARKS = some ⟨.type "tuple", qd_MARKS, .seq qi_MARKS qn_MARKS, qs_MARKS⟩)
    (z_MARKS : qi_MARKS.size ≤ sizeLine)
    (r_MARKS : Vals [V.str "long", V.str "done", V.str "divided", V.str "place", V.str "input", V.str "full", V.str "bad"] qi_MARKS.toList)
    (v_MOST_TOLD : PySem.W.nsIn K mainGlobals "MOST_TOLD" = some (some (.int 16 t_MOST_TOLD)))
    (v_MOST_IMAGE : PySem.W.nsIn K mainGlobals "MOST_IMAGE" = some (some (.int 239 t_MOST_IMAGE)))
    (v_MOST_LEVEL : PySem.W.nsIn K mainGlobals "MOST_LEVEL" = some (some (.int 8 t_MOST_LEVEL)))
    (v_SIZES : PySem.W.nsIn K mainGlobals "SIZES" = some (some (.ref p_SIZES)))
    (q_SIZES : K.lookup p_SIZES = some ⟨.type "dict", none, .dict es_SIZES en_SIZES, #[]⟩)
    (kl_SIZES : PySem.W.KeysLit w.params es_SIZES.toList)
    (lo_SIZES : (p_SIZES == sysModules) = false)
    (e5_SIZES : PySem.W.nsIn K p_SIZES "x" = some none)
    (e4_SIZES : PySem.W.nsIn K p_SIZES "answer" = some none)
    (e3_SIZES : PySem.W.nsIn K p_SIZES "prove" = some (some (.int 7 t3_SIZES)))
    (e2_SIZES : PySem.W.nsIn K p_SIZES "halve" = some (some (.int 11 t2_SIZES)))
    (e1_SIZES : PySem.W.nsIn K p_SIZES "claim" = some (some (.int 8 t1_SIZES)))
    (e0_SIZES : PySem.W.nsIn K p_SIZES "ask" = some (some (.int 4 t0_SIZES)))
    (b_all : PySem.W.nsIn K mainGlobals "all" = some none)
    (b_bool : PySem.W.nsIn K mainGlobals "bool" = some none)
    (b_int : PySem.W.nsIn K mainGlobals "int" = some none)
    (b_isinstance : PySem.W.nsIn K mainGlobals "isinstance" = some none)
    (b_len : PySem.W.nsIn K mainGlobals "len" = some none)
    (b_max : PySem.W.nsIn K mainGlobals "max" = some none)
    (b_min : PySem.W.nsIn K mainGlobals "min" = some none)
    (b_range : PySem.W.nsIn K mainGlobals "range" = some none)
    (b_str : PySem.W.nsIn K mainGlobals "str" = some none)
    (b_tuple : PySem.W.nsIn K mainGlobals "tuple" = some none) :
    ∃ (fd : FuncData) (Cl : Nat → Addr), (∀ (s : Shared) (v : Value), BindsTo s fd ⟨[v], []⟩ [("_law_script", v)]) ∧ ∀ base : Heap, K.In base → base.Ns mainGlobals mg → FnOk l.prog w K mg base CX0 11 fa fd ["_law_script"] (spM K Cl 1 m_law) := by
  have e : f_law = fa := by
    have z := (PySem.W.mg_of X G a_law).symm.trans hfa
    injection z with z
    injection z
  subst e
  let T : Tx w K mg (fun n => [C_Digests].getD n 0) := {
    a_L_bag := f_L_bag,
    d_L_bag := _,
    F_L_bag := fun_mk (st := s_L_bag) l_L_bag c_L_bag k_L_bag,
    g_L_bag := PySem.W.mg_of X G a_L_bag,
    a_Digests_init := f_Digests_init,
    d_Digests_init := _,
    F_Digests_init := fun_mk (st := s_Digests_init) l_Digests_init c_Digests_init k_Digests_init,
    M_Digests := ⟨mk_Digests, a_Digests_init, i_Digests_init, kc_Digests⟩,
    a_L_draw := f_L_draw,
    d_L_draw := _,
    F_L_draw := fun_mk (st := s_L_draw) l_L_draw c_L_draw k_L_draw,
    g_L_draw := PySem.W.mg_of X G a_L_draw,
    a_Digests_modulus := f_Digests_modulus,
    d_Digests_modulus := _,
    F_Digests_modulus := fun_mk (st := s_Digests_modulus) l_Digests_modulus c_Digests_modulus k_Digests_modulus,
    m_Digests_modulus := ⟨a_Digests_modulus, i_Digests_modulus, k_Digests_modulus⟩,
    a_L_right := f_L_right,
    d_L_right := _,
    F_L_right := fun_mk (st := s_L_right) l_L_right c_L_right k_L_right,
    g_L_right := PySem.W.mg_of X G a_L_right,
    a_L_spoilt := f_L_spoilt,
    d_L_spoilt := _,
    F_L_spoilt := fun_mk (st := s_L_spoilt) l_L_spoilt c_L_spoilt k_L_spoilt,
    g_L_spoilt := PySem.W.mg_of X G a_L_spoilt,
    a_is_integer := f_is_integer,
    d_is_integer := _,
    F_is_integer := fun_mk (st := s_is_integer) l_is_integer c_is_integer k_is_integer,
    g_is_integer := PySem.W.mg_of X G a_is_integer,
    a_is_word := f_is_word,
    d_is_word := _,
    F_is_word := fun_mk (st := s_is_word) l_is_word c_is_word k_is_word,
    g_is_word := PySem.W.mg_of X G a_is_word,
    a_is_row := f_is_row,
    d_is_row := _,
    F_is_row := fun_mk (st := s_is_row) l_is_row c_is_row k_is_row,
    g_is_row := PySem.W.mg_of X G a_is_row,
    a_is_number := f_is_number,
    d_is_number := _,
    F_is_number := fun_mk (st := s_is_number) l_is_number c_is_number k_is_number,
    g_is_number := PySem.W.mg_of X G a_is_number,
    a_is_source := f_is_source,
    d_is_source := _,
    F_is_source := fun_mk (st := s_is_source) l_is_source c_is_source k_is_source,
    g_is_source := PySem.W.mg_of X G a_is_source,
    a_Digests_is_digest := f_Digests_is_digest,
    d_Digests_is_digest := _,
    F_Digests_is_digest := fun_mk (st := s_Digests_is_digest) l_Digests_is_digest c_Digests_is_digest k_Digests_is_digest,
    m_Digests_is_digest := ⟨a_Digests_is_digest, i_Digests_is_digest, k_Digests_is_digest⟩,
    a_are_digests := f_are_digests,
    d_are_digests := _,
    F_are_digests := fun_mk (st := s_are_digests) l_are_digests c_are_digests k_are_digests,
    g_are_digests := PySem.W.mg_of X G a_are_digests,
    a_are_registers := f_are_registers,
    d_are_registers := _,
    F_are_registers := fun_mk (st := s_are_registers) l_are_registers c_are_registers k_are_registers,
    g_are_registers := PySem.W.mg_of X G a_are_registers,
    a_is_letter := f_is_letter,
    d_is_letter := _,
    F_is_letter := fun_mk (st := s_is_letter) l_is_letter c_is_letter k_is_letter,
    g_is_letter := PySem.W.mg_of X G a_is_letter,
    a_L_is_number := f_L_is_number,
    d_L_is_number := _,
    F_L_is_number := fun_mk (st := s_L_is_number) l_L_is_number c_L_is_number k_L_is_number,
    g_L_is_number := PySem.W.mg_of X G a_L_is_number,
    a_L_numbers := f_L_numbers,
    d_L_numbers := _,
    F_L_numbers := fun_mk (st := s_L_numbers) l_L_numbers c_L_numbers k_L_numbers,
    g_L_numbers := PySem.W.mg_of X G a_L_numbers,
    a_L_registers := f_L_registers,
    d_L_registers := _,
    F_L_registers := fun_mk (st := s_L_registers) l_L_registers c_L_registers k_L_registers,
    g_L_registers := PySem.W.mg_of X G a_L_registers,
    a_L_due := f_L_due,
    d_L_due := _,
    F_L_due := fun_mk (st := s_L_due) l_L_due c_L_due k_L_due,
    g_L_due := PySem.W.mg_of X G a_L_due,
    a_law := f_law,
    d_law := _,
    F_law := fun_mk (st := s_law) l_law c_law k_law,
    g_law := PySem.W.mg_of X G a_law,
    k_Digests := ⟨pg_Digests, hd_Digests, po_Digests, sa_Digests⟩,
    g_Digests := PySem.W.mg_of X G aC_Digests,
    n_Digests__bits := n_Digests__bits,
    n_Digests__modulus := n_Digests__modulus,
    n_Digests__book := n_Digests__book,
    c_MOST_WORD := ⟨_, .int 65535, PySem.W.mg_of X G v_MOST_WORD, ⟨_, rfl⟩, fun _ _ => .int _⟩,
    c_MOST_INPUTS := ⟨_, .int 16, PySem.W.mg_of X G v_MOST_INPUTS, ⟨_, rfl⟩, fun _ _ => .int _⟩,
    c_PLACES := ⟨_, .int 256, PySem.W.mg_of X G v_PLACES, ⟨_, rfl⟩, fun _ _ => .int _⟩,
    c_MARKS := ⟨_, .ref p_MARKS, PySem.W.mg_of X G v_MARKS, rfl, fun _ _ => .tup (.inr ⟨_, qi_MARKS, qn_MARKS, q_MARKS, rfl, rfl, z_MARKS, r_MARKS⟩) (.cons (.str _) (.cons (.str _) (.cons (.str _) (.cons (.str _) (.cons (.str _) (.cons (.str _) (.cons (.str _) RVs.nil)))))))⟩,
    c_MOST_TOLD := ⟨_, .int 16, PySem.W.mg_of X G v_MOST_TOLD, ⟨_, rfl⟩, fun _ _ => .int _⟩,
    c_MOST_IMAGE := ⟨_, .int 239, PySem.W.mg_of X G v_MOST_IMAGE, ⟨_, rfl⟩, fun _ _ => .int _⟩,
    c_MOST_LEVEL := ⟨_, .int 8, PySem.W.mg_of X G v_MOST_LEVEL, ⟨_, rfl⟩, fun _ _ => .int _⟩,
    aD_SIZES := p_SIZES,
    D_SIZES := (KDt.ci (KDt.ci (KDt.ci (KDt.ci (KDt.cn (KDt.cn (KDt.nil ⟨q_SIZES, kl_SIZES, lo_SIZES⟩) e5_SIZES) e4_SIZES) e3_SIZES) e2_SIZES) e1_SIZES) e0_SIZES),
    gD_SIZES := PySem.W.mg_of X G v_SIZES,
    b_all := PySem.W.mg_none_of X G b_all,
    b_bool := PySem.W.mg_none_of X G b_bool,
    b_int := PySem.W.mg_none_of X G b_int,
    b_isinstance := PySem.W.mg_none_of X G b_isinstance,
    b_len := PySem.W.mg_none_of X G b_len,
    b_max := PySem.W.mg_none_of X G b_max,
    b_min := PySem.W.mg_none_of X G b_min,
    b_range := PySem.W.mg_none_of X G b_range,
    b_str := PySem.W.mg_none_of X G b_str,
    b_tuple := PySem.W.mg_none_of X G b_tuple }
  exact ⟨_, _, fun s v => .of_eq rfl, fun base _ _ => ok_law T⟩
theorem walk {l : PySem.W.OpenLaw} {q : Program} {loose : List Str} {XP : (Str → Option Value) → Heap → Prop} {YP : World → Heap → Prop} {d : DefRec} {K : Params → PySem.W.Frag} (hn : l.most = some 63) (hdf : d.params.defaults = [])
    (hY : ∀ (w : World) (h : Heap), YP w h → (K w.params).In h)
    (hlaw : ∀ ns : List Int, ns.length ≤ 63 → (∀ z ∈ ns, Builtin.Int.intBits z ≤ 1048576) → ∃ st, m_law [.xst (ns.map W.int)] [] = .ok (.bl true) st)
    (F : ∀ (w : World) (mg : Str → Option Value) (fa : Addr) (h : Heap), (K w.params).In h → h.Ns mainGlobals mg → mg d.name = some (.ref fa) →
      ∃ (fd : FuncData) (Cl : Nat → Addr), (∀ (s : Shared) (u : Value), BindsTo s fd ⟨[u], []⟩ [("_law_script", u)]) ∧ ∀ base : Heap, (K w.params).In base → base.Ns mainGlobals mg → FnOk l.prog w (K w.params) mg base CX0 11 fa fd ["_law_script"] (spM (K w.params) Cl 1 m_law)) :
    PySem.W.WalkO q loose XP YP l.row.toRowW d [] (fun f vs => PySem.call f vs) :=
  L2.walk_ofB (n := 63) (k := 11) (x := "_law_script") (CX := fun _ => CX0) (sp := fun w vs H Q E => ∀ Cl, spM (K w.params) Cl 1 m_law vs H Q E) hn (by decide) hdf ⟨rfl, by decide, by decide⟩ hY
    (fun w mg fa h X G hm => by
      obtain ⟨fd, Cl, b, f⟩ := F w mg fa h X G hm
      exact ⟨fd, b, fun base h1 h2 => (f base h1 h2).imp fun vs H Q E q => q Cl⟩)
    (fun w H a ns hl hb hO hS Cl => law_sp hO hS (hlaw ns hl hb)) (fun _ _ _ _ _ z => z)
end Gn

open PySem PySem.W PyProof.Rows
set_option maxRecDepth 100000 in
set_option maxHeartbeats 0 in
theorem PySem.Challenge.cw_onestepcourt_k52_letters_holds : PySem.Challenge.rw_onestepcourt_k52_letters.Holds := by
  w_on; o_law; k_head; (case hw => w_witness2)
  k_fill
  refine Gn.walk (l := PySem.Challenge.rw_onestepcourt_k52_letters) rfl rfl (fun w h Y => PySem.W.kIn_of Y) Gn.law_true ?F
  case F =>
    intro w mg fa h KX G hmg
    refine' Gn.all_mk KX G hmg ?aC_Digests ?a_L_bag ?l_L_bag ?c_L_bag ?k_L_bag ?a_Digests_init ?i_Digests_init ?l_Digests_init ?c_Digests_init ?k_Digests_init ?a_L_draw ?l_L_draw ?c_L_draw ?k_L_draw ?a_Digests_modulus ?i_Digests_modulus ?l_Digests_modulus ?c_Digests_modulus ?k_Digests_modulus ?a_L_right ?l_L_right ?c_L_right ?k_L_right ?a_L_spoilt ?l_L_spoilt ?c_L_spoilt ?k_L_spoilt ?a_is_integer ?l_is_integer ?c_is_integer ?k_is_integer ?a_is_word ?l_is_word ?c_is_word ?k_is_word ?a_is_row ?l_is_row ?c_is_row ?k_is_row ?a_is_number ?l_is_number ?c_is_number ?k_is_number ?a_is_source ?l_is_source ?c_is_source ?k_is_source ?a_Digests_is_digest ?i_Digests_is_digest ?l_Digests_is_digest ?c_Digests_is_digest ?k_Digests_is_digest ?a_are_digests ?l_are_digests ?c_are_digests ?k_are_digests ?a_are_registers ?l_are_registers ?c_are_registers ?k_are_registers ?a_is_letter ?l_is_letter ?c_is_letter ?k_is_letter ?a_L_is_number ?l_L_is_number ?c_L_is_number ?k_L_is_number ?a_L_numbers ?l_L_numbers ?c_L_numbers ?k_L_numbers ?a_L_registers ?l_L_registers ?c_L_registers ?k_L_registers ?a_L_due ?l_L_due ?c_L_due ?k_L_due ?a_law ?l_law ?c_law ?k_law ?pg_Digests ?hd_Digests ?po_Digests ?sa_Digests ?mk_Digests ?kc_Digests ?n_Digests__bits ?n_Digests__modulus ?n_Digests__book ?v_MOST_WORD ?v_MOST_INPUTS ?v_PLACES ?v_MARKS ?q_MARKS ?z_MARKS ?r_MARKS ?v_MOST_TOLD ?v_MOST_IMAGE ?v_MOST_LEVEL ?v_SIZES ?q_SIZES ?kl_SIZES ?lo_SIZES ?e5_SIZES ?e4_SIZES ?e3_SIZES ?e2_SIZES ?e1_SIZES ?e0_SIZES ?b_all ?b_bool ?b_int ?b_isinstance ?b_len ?b_max ?b_min ?b_range ?b_str ?b_tuple
    (case aC_Digests => k_is); (case a_L_bag => k_is); (case l_L_bag => k_is); (case c_L_bag => k_is); (case k_L_bag => k_is); (case a_Digests_init => k_is)
    (case i_Digests_init => k_is); (case l_Digests_init => k_is); (case c_Digests_init => k_is); (case k_Digests_init => k_is); (case a_L_draw => k_is); (case l_L_draw => k_is)
    (case c_L_draw => k_is); (case k_L_draw => k_is); (case a_Digests_modulus => k_is); (case i_Digests_modulus => k_is); (case l_Digests_modulus => k_is); (case c_Digests_modulus => k_is)
    (case k_Digests_modulus => k_is); (case a_L_right => k_is); (case l_L_right => k_is); (case c_L_right => k_is); (case k_L_right => k_is); (case a_L_spoilt => k_is)
    (case l_L_spoilt => k_is); (case c_L_spoilt => k_is); (case k_L_spoilt => k_is); (case a_is_integer => k_is); (case l_is_integer => k_is); (case c_is_integer => k_is)
    (case k_is_integer => k_is); (case a_is_word => k_is); (case l_is_word => k_is); (case c_is_word => k_is); (case k_is_word => k_is); (case a_is_row => k_is)
    (case l_is_row => k_is); (case c_is_row => k_is); (case k_is_row => k_is); (case a_is_number => k_is); (case l_is_number => k_is); (case c_is_number => k_is)
    (case k_is_number => k_is); (case a_is_source => k_is); (case l_is_source => k_is); (case c_is_source => k_is); (case k_is_source => k_is); (case a_Digests_is_digest => k_is)
    (case i_Digests_is_digest => k_is); (case l_Digests_is_digest => k_is); (case c_Digests_is_digest => k_is); (case k_Digests_is_digest => k_is); (case a_are_digests => k_is); (case l_are_digests => k_is)
    (case c_are_digests => k_is); (case k_are_digests => k_is); (case a_are_registers => k_is); (case l_are_registers => k_is); (case c_are_registers => k_is); (case k_are_registers => k_is)
    (case a_is_letter => k_is); (case l_is_letter => k_is); (case c_is_letter => k_is); (case k_is_letter => k_is); (case a_L_is_number => k_is); (case l_L_is_number => k_is)
    (case c_L_is_number => k_is); (case k_L_is_number => k_is); (case a_L_numbers => k_is); (case l_L_numbers => k_is); (case c_L_numbers => k_is); (case k_L_numbers => k_is)
    (case a_L_registers => k_is); (case l_L_registers => k_is); (case c_L_registers => k_is); (case k_L_registers => k_is); (case a_L_due => k_is); (case l_L_due => k_is)
    (case c_L_due => k_is); (case k_L_due => k_is); (case a_law => k_is); (case l_law => k_is); (case c_law => k_is); (case k_law => k_is)
    (case pg_Digests => k_is); (case hd_Digests => k_is); (case po_Digests => k_is); (case sa_Digests => k_is); (case mk_Digests => k_is); (case kc_Digests => k_is)
    (case n_Digests__bits => k_is); (case n_Digests__modulus => k_is); (case n_Digests__book => k_is); (case v_MOST_WORD => k_is); (case v_MOST_INPUTS => k_is); (case v_PLACES => k_is)
    (case v_MARKS => k_is); (case q_MARKS => k_is); (case z_MARKS => decide); (case r_MARKS => exact .cons ⟨_, rfl⟩ (.cons ⟨_, rfl⟩ (.cons ⟨_, rfl⟩ (.cons ⟨_, rfl⟩ (.cons ⟨_, rfl⟩ (.cons ⟨_, rfl⟩ (.cons ⟨_, rfl⟩ (.nil)))))))); (case v_MOST_TOLD => k_is); (case v_MOST_IMAGE => k_is)
    (case v_MOST_LEVEL => k_is); (case v_SIZES => k_is); (case q_SIZES => k_is); (case kl_SIZES => k_keys); (case lo_SIZES => decide); (case e5_SIZES => k_is)
    (case e4_SIZES => k_is); (case e3_SIZES => k_is); (case e2_SIZES => k_is); (case e1_SIZES => k_is); (case e0_SIZES => k_is); (case b_all => k_is)
    (case b_bool => k_is); (case b_int => k_is); (case b_isinstance => k_is); (case b_len => k_is); (case b_max => k_is); (case b_min => k_is)
    (case b_range => k_is); (case b_str => k_is); (case b_tuple => k_is)
#print axioms PySem.Challenge.cw_onestepcourt_k52_letters_holds
