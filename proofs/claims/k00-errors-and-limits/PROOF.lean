import PyProof.Rows.All
import Wide.All
import OpenK.AllK
import Wide.FinOn
import HandS.ForMost
import HandS.Wide
import HandS.WideBits
import HandS.EndBits
import HandS.Deep
import HandS.Flow
import HandS.Conv
import HandS.TupAny
import HandS.TupMul
import HandS.IsInst
import HandS.Style
import HandS.Walk
import HandS.ForExc
import PyProof.Rows.ChunkLeaf
import HandS.Strs
import KE.GoesMore
import PyProof.DictMoreH
import HandS.Iter
import KE.KDictWalk
import HandS.Small
import HandS.TryOnly
import HandS.ExcIs
import HandS.ExcInit
import KE.KExcIs
import PySem.Challenge.RW_onestepcourt_k00_errors_and_limits
set_option Elab.async false
set_option linter.all false
set_option maxRecDepth 100000
set_option maxHeartbeats 4000000
/-! The mirror layer, part A: values, the store, how they stand in a heap. -/
namespace Mi
open PySem L2

inductive W where
  | non | bl (b : Bool) | int (i : Int) | str (x : Str) | tup (xs : List W) | lst (xs : List W) | xst (xs : List W) | ref (i : Nat)
abbrev Fl := List (Str × W)
inductive Ob where
  | lst (xs : List W) | dK (kvs : List (Key × W)) | dT (kvs : List (List Key × W)) | ins (c : Nat) (fs : Fl) | dead
abbrev Sto := List Ob
abbrev Slo := List (Option W)
/-- where the store's objects stand; addresses that only a comprehension in progress may change -/
structure Bt where
  l : List (Option Addr)
  pr : List Addr

/-- what an evaluation comes to -/
inductive Out (α : Type) where
  | ok (a : α) (st : Sto) | exc (c : Nat) (fs : Fl) (st : Sto) | stuck
@[simp] def Out.bind {α β : Type} : Out α → (α → Sto → Out β) → Out β
  | .ok a st, f => f a st
  | .exc c fs st, _ => .exc c fs st
  | .stuck, _ => .stuck
/-- what a statement comes to -/
inductive SO where
  | nx (s : Slo) (st : Sto) | rt (w : W) (st : Sto) | bk (s : Slo) (st : Sto) | ct (s : Slo) (st : Sto) | exc (c : Nat) (fs : Fl) (st : Sto) | stuck
abbrev ME := Slo → Sto → Out W
abbrev MA := Slo → Sto → Out (List W)
abbrev MT := Slo → Sto → Out Bool
abbrev MS := Slo → Sto → SO
abbrev MF := List W → Sto → Out W

def NotIn (β : Bt) (p : Addr) : Prop := (∀ i : Nat, β.l[i]? ≠ some (some p)) ∧ p ∉ β.pr

/-- a list of the module's own top -/
def KL (K : PySem.W.Frag) (a : Addr) (xs : List V) : Prop :=
  ∃ (o : Obj) (its : Array Value) (n : Nat), K.lookup a = some o ∧ o.cls = .type "list" ∧ o.dict = none ∧ o.data = .seq its n ∧ its.size ≤ sizeLine ∧ Vals xs its.toList

mutual
inductive RV (K : PySem.W.Frag) (β : Bt) (H : Hp) : W → V → Prop
  | non : RV K β H .non .non
  | bl (b : Bool) : RV K β H (.bl b) (.bl b)
  | int (i : Int) : RV K β H (.int i) (.int i)
  | str (x : Str) : RV K β H (.str x) (.str x)
  | tup {p : Addr} {ws : List W} {vs : List V} : SqT K H p vs → RVs K β H ws vs → RV K β H (.tup ws) (.ref p)
  | lst {p : Addr} {ws : List W} {vs : List V} : H p = some (.lst vs) → NotIn β p → RVs K β H ws vs → RV K β H (.lst ws) (.ref p)
  | xst {p : Addr} {ws : List W} {vs : List V} : (KL K p vs ∨ ∃ o, H p = some (.frz o (.lst vs))) → RVs K β H ws vs → RV K β H (.xst ws) (.ref p)
  | ref {i : Nat} {a : Addr} : β.l[i]? = some (some a) → RV K β H (.ref i) (.ref a)
  | dead {i : Nat} {v : V} : β.l[i]? = some none → RV K β H (.ref i) v
inductive RVs (K : PySem.W.Frag) (β : Bt) (H : Hp) : List W → List V → Prop
  | nil : RVs K β H [] []
  | cons {w : W} {ws : List W} {v : V} {vs : List V} : RV K β H w v → RVs K β H ws vs → RVs K β H (w :: ws) (v :: vs)
end

structure Ext (K : PySem.W.Frag) (β : Bt) (H : Hp) (β' : Bt) (H' : Hp) : Prop where
  tup : ∀ p vs, SqT K H p vs → SqT K H' p vs
  lst : ∀ p vs, H p = some (.lst vs) → NotIn β p → H' p = some (.lst vs) ∧ NotIn β' p
  frz : ∀ p o u, H p = some (.frz o u) → H' p = some (.frz o u)
  live : ∀ (i : Nat) (o : Option Addr), β.l[i]? = some o → β'.l[i]? = some o ∨ β'.l[i]? = some none
  prot : ∀ p ∈ β.pr, ∀ o, H p = some o → p ∈ β'.pr ∧ H' p = some o
theorem Ext.refl (K : PySem.W.Frag) (β : Bt) (H : Hp) : Ext K β H β H := ⟨fun _ _ h => h, fun _ _ h n => ⟨h, n⟩, fun _ _ _ h => h, fun _ _ h => .inl h, fun _ hp _ h => ⟨hp, h⟩⟩
theorem Ext.trans {K : PySem.W.Frag} {β β1 β2 : Bt} {H H1 H2 : Hp} (a : Ext K β H β1 H1) (b : Ext K β1 H1 β2 H2) : Ext K β H β2 H2 where
  tup := fun p vs h => b.tup p vs (a.tup p vs h)
  lst := fun p vs h n => by
    obtain ⟨h1, n1⟩ := a.lst p vs h n
    exact b.lst p vs h1 n1
  frz := fun p o u h => b.frz p o u (a.frz p o u h)
  live := fun i o h => by
    rcases a.live i o h with h1 | h1
    · exact b.live i o h1
    · rcases b.live i _ h1 with h2 | h2
      · exact .inr h2
      · exact .inr h2
  prot := fun p hp o h => by
    obtain ⟨h1, h2⟩ := a.prot p hp o h
    exact b.prot p h1 o h2

section
variable {K : PySem.W.Frag} {β β' : Bt} {H H' : Hp}
mutual
theorem RV.ext (e : Ext K β H β' H') : ∀ {w : W} {v : V}, RV K β H w v → RV K β' H' w v
  | _, _, .non => .non
  | _, _, .bl b => .bl b
  | _, _, .int i => .int i
  | _, _, .str x => .str x
  | _, _, .tup h r => .tup (e.tup _ _ h) (RVs.ext e r)
  | _, _, .lst h n r => .lst (e.lst _ _ h n).1 (e.lst _ _ h n).2 (RVs.ext e r)
  | _, _, .xst h r => .xst (h.imp (fun x => x) fun ⟨o, x⟩ => ⟨o, e.frz _ _ _ x⟩) (RVs.ext e r)
  | _, _, .ref h => (e.live _ _ h).elim (fun x => .ref x) fun x => .dead x
  | _, _, .dead h => (e.live _ _ h).elim (fun x => .dead x) fun x => .dead x
theorem RVs.ext (e : Ext K β H β' H') : ∀ {ws : List W} {vs : List V}, RVs K β H ws vs → RVs K β' H' ws vs
  | _, _, .nil => .nil
  | _, _, .cons h r => .cons (RV.ext e h) (RVs.ext e r)
end
mutual
/-- an address less is protected -/
theorem RV.drop (hl : β'.l = β.l) (hp : ∀ p, p ∈ β'.pr → p ∈ β.pr) : ∀ {w : W} {v : V}, RV K β H w v → RV K β' H w v
  | _, _, .non => .non
  | _, _, .bl b => .bl b
  | _, _, .int i => .int i
  | _, _, .str x => .str x
  | _, _, .tup h r => .tup h (RVs.drop' hl hp r)
  | _, _, .lst h n r => .lst h ⟨fun i => by rw [hl]; exact n.1 i, fun z => n.2 (hp _ z)⟩ (RVs.drop' hl hp r)
  | _, _, .xst h r => .xst h (RVs.drop' hl hp r)
  | _, _, .ref h => .ref (by rw [hl]; exact h)
  | _, _, .dead h => .dead (by rw [hl]; exact h)
theorem RVs.drop' (hl : β'.l = β.l) (hp : ∀ p, p ∈ β'.pr → p ∈ β.pr) : ∀ {ws : List W} {vs : List V}, RVs K β H ws vs → RVs K β' H ws vs
  | _, _, .nil => .nil
  | _, _, .cons h r => .cons (RV.drop hl hp h) (RVs.drop' hl hp r)
end
theorem RVs.length : ∀ {ws : List W} {vs : List V}, RVs K β H ws vs → ws.length = vs.length
  | _, _, .nil => rfl
  | _, _, .cons _ r => by rw [List.length_cons, List.length_cons, RVs.length r]
theorem RVs.get : ∀ {ws : List W} {vs : List V} {i : Nat} {w : W}, RVs K β H ws vs → ws[i]? = some w → ∃ v, vs[i]? = some v ∧ RV K β H w v
  | _, _, _, _, .nil, e => by simp at e
  | _, _, 0, _, .cons h r, e => by simp at e; subst e; exact ⟨_, rfl, h⟩
  | _, _, i + 1, w, .cons h r, e => by
    obtain ⟨v, h1, h2⟩ := RVs.get (i := i) (w := w) r (by simpa using e)
    exact ⟨v, by simpa using h1, h2⟩
theorem RVs.getv : ∀ {ws : List W} {vs : List V} {i : Nat} {v : V}, RVs K β H ws vs → vs[i]? = some v → ∃ w, ws[i]? = some w ∧ RV K β H w v
  | _, _, _, _, .nil, e => by simp at e
  | _, _, 0, _, .cons h r, e => by simp at e; subst e; exact ⟨_, rfl, h⟩
  | _, _, i + 1, v, .cons h r, e => by
    obtain ⟨w, h1, h2⟩ := RVs.getv (i := i) (v := v) r (by simpa using e)
    exact ⟨w, by simpa using h1, h2⟩
theorem RVs.append : ∀ {ws ws' : List W} {vs vs' : List V}, RVs K β H ws vs → RVs K β H ws' vs' → RVs K β H (ws ++ ws') (vs ++ vs')
  | _, _, _, _, .nil, s => s
  | _, _, _, _, .cons h r, s => .cons h (RVs.append r s)
theorem RVs.take : ∀ {ws : List W} {vs : List V} (n : Nat), RVs K β H ws vs → RVs K β H (ws.take n) (vs.take n)
  | _, _, 0, _ => by simp; exact .nil
  | _, _, _ + 1, .nil => by simp; exact .nil
  | _, _, n + 1, .cons h r => .cons h (RVs.take n r)
theorem RVs.drop : ∀ {ws : List W} {vs : List V} (n : Nat), RVs K β H ws vs → RVs K β H (ws.drop n) (vs.drop n)
  | _, _, 0, r => r
  | _, _, _ + 1, .nil => by simp; exact .nil
  | _, _, n + 1, .cons _ r => RVs.drop n r
theorem RVs.set {w : W} {v : V} (h : RV K β H w v) : ∀ {ws : List W} {vs : List V} (i : Nat), RVs K β H ws vs → RVs K β H (ws.set i w) (vs.set i v)
  | _, _, _, .nil => .nil
  | _, _, 0, .cons _ r => .cons h r
  | _, _, i + 1, .cons q r => .cons q (RVs.set h i r)
theorem RVs.rep {ws : List W} {vs : List V} (h : RVs K β H ws vs) : ∀ k : Nat, RVs K β H (List.replicate k ws).flatten (List.replicate k vs).flatten
  | 0 => .nil
  | k + 1 => by
    rw [List.replicate_succ, List.replicate_succ, List.flatten_cons, List.flatten_cons]
    exact RVs.append h (RVs.rep h k)
theorem RVs.dropLast {ws : List W} {vs : List V} (h : RVs K β H ws vs) : RVs K β H ws.dropLast vs.dropLast := by
  rw [List.dropLast_eq_take, List.dropLast_eq_take, h.length]
  exact h.take _
theorem RVs.reverse : ∀ {ws : List W} {vs : List V}, RVs K β H ws vs → RVs K β H ws.reverse vs.reverse
  | _, _, .nil => .nil
  | _, _, .cons h r => by
    rw [List.reverse_cons, List.reverse_cons]
    exact (RVs.reverse r).append (.cons h .nil)
theorem RVs.eraseIdx : ∀ {ws : List W} {vs : List V} (i : Nat), RVs K β H ws vs → RVs K β H (ws.eraseIdx i) (vs.eraseIdx i)
  | _, _, _, .nil => .nil
  | _, _, 0, .cons _ r => r
  | _, _, i + 1, .cons q r => .cons q (RVs.eraseIdx i r)
end

/-- fields, a dict's pairs -/
inductive RF (K : PySem.W.Frag) (β : Bt) (H : Hp) {κ : Type} : List (κ × W) → List (κ × V) → Prop
  | nil : RF K β H [] []
  | cons {k : κ} {w : W} {v : V} {fs : List (κ × W)} {gs : List (κ × V)} : RV K β H w v → RF K β H fs gs → RF K β H ((k, w) :: fs) ((k, v) :: gs)
section
variable {K : PySem.W.Frag} {β β' : Bt} {H H' : Hp} {κ : Type}
theorem RF.ext (e : Ext K β H β' H') : ∀ {fs : List (κ × W)} {gs : List (κ × V)}, RF K β H fs gs → RF K β' H' fs gs
  | _, _, .nil => .nil
  | _, _, .cons h r => .cons (h.ext e) (RF.ext e r)
theorem RF.drop' (hl : β'.l = β.l) (hp : ∀ p, p ∈ β'.pr → p ∈ β.pr) : ∀ {fs : List (κ × W)} {gs : List (κ × V)}, RF K β H fs gs → RF K β' H fs gs
  | _, _, .nil => .nil
  | _, _, .cons h r => .cons (h.drop hl hp) (RF.drop' hl hp r)
theorem RF.length : ∀ {fs : List (κ × W)} {gs : List (κ × V)}, RF K β H fs gs → fs.length = gs.length
  | _, _, .nil => rfl
  | _, _, .cons _ r => by rw [List.length_cons, List.length_cons, RF.length r]
theorem RF.look [BEq κ] [LawfulBEq κ] {k : κ} : ∀ {fs : List (κ × W)} {gs : List (κ × V)} {w : W}, RF K β H fs gs → fs.lookup k = some w → ∃ v, gs.lookup k = some v ∧ RV K β H w v
  | _, _, _, .nil, e => by cases e
  | _, _, w, .cons (k := j) (w := u) (v := v) (fs := fs) (gs := gs) h r, e => by
    rw [List.lookup_cons] at e ⊢
    cases hk : (k == j) with
    | true =>
      rw [hk] at e
      cases e
      exact ⟨v, rfl, h⟩
    | false =>
      rw [hk] at e
      exact RF.look r e
theorem RF.lookN [BEq κ] [LawfulBEq κ] {k : κ} : ∀ {fs : List (κ × W)} {gs : List (κ × V)}, RF K β H fs gs → fs.lookup k = none → gs.lookup k = none
  | _, _, .nil, _ => rfl
  | _, _, .cons (k := j) h r, e => by
    rw [List.lookup_cons] at e ⊢
    cases hk : (k == j) with
    | true => rw [hk] at e; cases e
    | false =>
      rw [hk] at e
      exact RF.lookN r e
end
/-- a field stored -/
def putW (f : Str) (v : W) : Fl → Fl
  | [] => [(f, v)]
  | (g, u) :: r => if g = f then (f, v) :: r else (g, u) :: putW f v r
end Mi
/-! The mirror layer, part B: the store in a heap; what is wanted of an outcome. -/
namespace Mi
open PySem L2

abbrev Bt.push (β : Bt) (p : Addr) : Bt := ⟨β.l ++ [some p], β.pr⟩
abbrev Bt.letgo (β : Bt) (i : Nat) : Bt := ⟨β.l.set i none, β.pr⟩
abbrev Bt.guard (β : Bt) (p : Addr) : Bt := ⟨β.l, p :: β.pr⟩

section
variable (K : PySem.W.Frag) (Cl : Nat → Addr)
def RO (β : Bt) (H : Hp) (a : Addr) : Ob → Prop
  | .lst ws => ∃ vs, H a = some (.lst vs) ∧ RVs K β H ws vs
  | .dK kvs => ∃ gs, H a = some (.dK gs) ∧ RF K β H kvs gs
  | .dT kvs => ∃ gs, H a = some (.dT gs) ∧ RF K β H kvs gs
  | .ins c fs => ∃ dx gs, H a = some (.ins (Cl c) dx gs) ∧ RF K β H fs gs
  | .dead => False
structure HR (β : Bt) (H : Hp) (st : Sto) : Prop where
  len : β.l.length = st.length
  inj : ∀ (i j : Nat) (a : Addr), β.l[i]? = some (some a) → β.l[j]? = some (some a) → i = j
  ob : ∀ (i : Nat) (a : Addr) (o : Ob), β.l[i]? = some (some a) → st[i]? = some o → RO K Cl β H a o
  dead : ∀ i : Nat, β.l[i]? = some none → st[i]? = some .dead
  prot : ∀ p ∈ β.pr, (∃ o, H p = some o) ∧ ∀ i : Nat, β.l[i]? ≠ some (some p)
def SR (β : Bt) (H : Hp) (s : Slo) (σ : L2.St) : Prop := s.length = σ.length ∧ ∀ (i : Nat) (w : W), s[i]? = some (some w) → ∃ v, σ[i]? = some (some v) ∧ RV K β H w v
/-- an exception's own dict -/
def RX (β : Bt) (H : Hp) (fs : Fl) (d : Option Addr) : Prop := (fs = [] ∧ d = none) ∨ ∃ dd gs, d = some dd ∧ H dd = some (.xd gs) ∧ RF K β H fs gs

def PoG {α ω : Type} (R : Bt → Hp → α → ω → Prop) (E : XK) (β : Bt) (H : Hp) (Q : ω → Hp → Prop) : Out α → Prop
  | .ok a st => ∀ β' H' v, Ext K β H β' H' → HR K Cl β' H' st → R β' H' a v → Q v H'
  | .exc c fs st => ∀ β' H' d, Ext K β H β' H' → HR K Cl β' H' st → RX K β' H' fs d → E (.ref (Cl c)) d H'
  | .stuck => False
abbrev Po (E : XK) := PoG K Cl (RV K) E
abbrev PoL (E : XK) := PoG K Cl (RVs K) E
abbrev PoB (E : XK) := PoG K Cl (fun _ _ (a b : Bool) => a = b) E
def PoS (E : XK) (D : Ends) (β : Bt) (H : Hp) : SO → Prop
  | .nx s st => ∀ β' H' σ', Ext K β H β' H' → HR K Cl β' H' st → SR K β' H' s σ' → D.nx σ' H'
  | .rt w st => ∀ β' H' v, Ext K β H β' H' → HR K Cl β' H' st → RV K β' H' w v → D.rt v H'
  | .bk s st => ∀ β' H' σ', Ext K β H β' H' → HR K Cl β' H' st → SR K β' H' s σ' → D.bk σ' H'
  | .ct s st => ∀ β' H' σ', Ext K β H β' H' → HR K Cl β' H' st → SR K β' H' s σ' → D.ct σ' H'
  | .exc c fs st => ∀ β' H' d, Ext K β H β' H' → HR K Cl β' H' st → RX K β' H' fs d → E (.ref (Cl c)) d H'
  | .stuck => False
def SE (E : XK) (t : TE) (m : ME) : Prop := ∀ β H σ s st Q, HR K Cl β H st → SR K β H s σ → Po K Cl E β H Q (m s st) → t σ H Q
def SA (E : XK) (t : TA) (m : MA) : Prop := ∀ β H σ s st Q, HR K Cl β H st → SR K β H s σ → PoL K Cl E β H Q (m s st) → t σ H Q
def ST (E : XK) (t : TT) (m : MT) : Prop := ∀ β H σ s st Q, HR K Cl β H st → SR K β H s σ → PoB K Cl E β H Q (m s st) → t σ H Q
def SS (E : XK) (t : TS) (m : MS) : Prop := ∀ β H σ s st D, HR K Cl β H st → SR K β H s σ → PoS K Cl E D β H (m s st) → t D σ H
end

section
variable {K : PySem.W.Frag} {Cl : Nat → Addr} {E : XK} {β β' : Bt} {H H' : Hp} {α ω : Type} {R : Bt → Hp → α → ω → Prop} {Q Q' : ω → Hp → Prop} {st : Sto} {s : Slo} {σ : L2.St} {o : Out α}
theorem PoG.ext (e : Ext K β H β' H') (h : PoG K Cl R E β H Q o) : PoG K Cl R E β' H' Q o := by
  cases o with
  | ok a st => exact fun β2 H2 v e2 hr r => h β2 H2 v (e.trans e2) hr r
  | exc c fs st => exact fun β2 H2 d e2 hr r => h β2 H2 d (e.trans e2) hr r
  | stuck => exact h
theorem PoS.ext {D : Ends} {o : SO} (e : Ext K β H β' H') (h : PoS K Cl E D β H o) : PoS K Cl E D β' H' o := by
  cases o with
  | nx s st => exact fun β2 H2 v e2 hr r => h β2 H2 v (e.trans e2) hr r
  | rt s st => exact fun β2 H2 v e2 hr r => h β2 H2 v (e.trans e2) hr r
  | bk s st => exact fun β2 H2 v e2 hr r => h β2 H2 v (e.trans e2) hr r
  | ct s st => exact fun β2 H2 v e2 hr r => h β2 H2 v (e.trans e2) hr r
  | exc c fs st => exact fun β2 H2 d e2 hr r => h β2 H2 d (e.trans e2) hr r
  | stuck => exact h
theorem SR.ext (e : Ext K β H β' H') (h : SR K β H s σ) : SR K β' H' s σ := ⟨h.1, fun i w hw => by
  obtain ⟨v, h1, h2⟩ := h.2 i w hw
  exact ⟨v, h1, h2.ext e⟩⟩
theorem SR.set (h : SR K β H s σ) {i : Nat} {w : W} {v : V} (r : RV K β H w v) : SR K β H (s.set i (some w)) (σ.set i (some v)) := by
  refine ⟨by rw [List.length_set, List.length_set, h.1], fun j u hj => ?_⟩
  by_cases e : i = j
  · subst e
    by_cases hl : i < s.length
    · rw [List.getElem?_set_self hl] at hj
      cases hj
      exact ⟨v, by rw [List.getElem?_set_self (by rw [← h.1]; exact hl)], r⟩
    · rw [List.getElem?_eq_none (by rw [List.length_set]; omega)] at hj
      cases hj
  · rw [List.getElem?_set_ne e] at hj ⊢
    exact h.2 j u hj
theorem HR.len' (h : HR K Cl β H st) {i : Nat} {o : Option Addr} (e : β.l[i]? = some o) : i < st.length := by
  rw [← h.len]
  exact (List.getElem?_eq_some_iff.mp e).1
/-- what a live place of the store holds -/
theorem HR.at (h : HR K Cl β H st) {i : Nat} {ob : Ob} (e : st[i]? = some ob) (hd : ob ≠ .dead) : ∃ a, β.l[i]? = some (some a) ∧ RO K Cl β H a ob := by
  have hi : i < β.l.length := by
    rw [h.len]
    exact (List.getElem?_eq_some_iff.mp e).1
  cases hb : β.l[i]? with
  | none => rw [List.getElem?_eq_none_iff] at hb; omega
  | some o =>
    cases o with
    | none =>
      rw [h.dead i hb] at e
      exact absurd (Option.some.inj e).symm hd
    | some a => exact ⟨a, rfl, h.ob i a ob hb e⟩
/-- a ref with a live object -/
theorem RV.atRef {i : Nat} {v : V} {ob : Ob} (r : RV K β H (.ref i) v) (h : HR K Cl β H st) (e : st[i]? = some ob) (hd : ob ≠ .dead) : ∃ a, v = .ref a ∧ β.l[i]? = some (some a) ∧ RO K Cl β H a ob := by
  obtain ⟨a, hb, ro⟩ := h.at e hd
  cases r with
  | ref h1 =>
    rw [hb] at h1
    cases h1
    exact ⟨a, rfl, hb, ro⟩
  | dead h1 =>
    rw [hb] at h1
    cases h1
theorem RO.some {a : Addr} {ob : Ob} (r : RO K Cl β H a ob) : ∃ u, H a = some u ∧ Mut (some u) := by
  cases ob with
  | lst ws => obtain ⟨_, h, _⟩ := r; exact ⟨_, h, trivial⟩
  | dK ws => obtain ⟨_, h, _⟩ := r; exact ⟨_, h, trivial⟩
  | dT ws => obtain ⟨_, h, _⟩ := r; exact ⟨_, h, trivial⟩
  | ins c fs => obtain ⟨_, _, h, _⟩ := r; exact ⟨_, h, trivial⟩
  | dead => exact r.elim
theorem RO.ext {a : Addr} {ob : Ob} (e : Ext K β H β' H') (ha : H' a = H a) (r : RO K Cl β H a ob) : RO K Cl β' H' a ob := by
  cases ob with
  | lst ws => obtain ⟨vs, h, r⟩ := r; exact ⟨vs, ha.trans h, r.ext e⟩
  | dK ws => obtain ⟨vs, h, r⟩ := r; exact ⟨vs, ha.trans h, r.ext e⟩
  | dT ws => obtain ⟨vs, h, r⟩ := r; exact ⟨vs, ha.trans h, r.ext e⟩
  | ins c fs => obtain ⟨dx, vs, h, r⟩ := r; exact ⟨dx, vs, ha.trans h, r.ext e⟩
  | dead => exact r.elim

/-! ### a new object that the store does not know -/
theorem sqT_ne {p q : Addr} {o : HO} {vs : List V} (h : H p = none) (hq : SqT K H q vs) : SqT K (upd H p o) q vs := by
  rcases hq with (hq | ⟨u, hq⟩) | hq
  · exact .inl (.inl (by rw [upd_ne (ne_of_none hq h)]; exact hq))
  · exact .inl (.inr ⟨u, by rw [upd_ne (ne_of_none hq h)]; exact hq⟩)
  · exact .inr hq
theorem Ext.new {p : Addr} {o : HO} (h : H p = none) : Ext K β H β (upd H p o) where
  tup := fun q vs hq => sqT_ne h hq
  lst := fun q vs hq n => ⟨by rw [upd_ne (ne_of_none hq h)]; exact hq, n⟩
  frz := fun q u x hq => by rw [upd_ne (ne_of_none hq h)]; exact hq
  live := fun _ _ h => .inl h
  prot := fun q hp u hq => ⟨hp, by rw [upd_ne (ne_of_none hq h)]; exact hq⟩
theorem HR.fresh (h : HR K Cl β H st) {p : Addr} (hp : H p = none) : NotIn β p := by
  refine ⟨fun i hi => ?_, fun hi => ?_⟩
  · have hl := h.len' hi
    obtain ⟨ob, ho⟩ : ∃ ob, st[i]? = some ob := ⟨st[i], List.getElem?_eq_getElem hl⟩
    obtain ⟨u, hu, _⟩ := (h.ob i p ob hi ho).some
    rw [hp] at hu
    cases hu
  · obtain ⟨⟨o, ho⟩, _⟩ := h.prot p hi
    rw [hp] at ho
    cases ho
theorem HR.new (h : HR K Cl β H st) {p : Addr} {o : HO} (hp : H p = none) : HR K Cl β (upd H p o) st where
  len := h.len
  inj := h.inj
  ob := fun i a ob hi ho => by
    have r := h.ob i a ob hi ho
    obtain ⟨u, hu, _⟩ := r.some
    exact r.ext (Ext.new hp) (upd_ne (ne_of_none hu hp))
  dead := h.dead
  prot := fun q hq => by
    obtain ⟨⟨u, hu⟩, n⟩ := h.prot q hq
    exact ⟨⟨u, by rw [upd_ne (ne_of_none hu hp)]; exact hu⟩, n⟩
/-- any heap that keeps all that is tracked -/
theorem Ext.same (e : Same H H') : Ext K β H β H' where
  tup := fun q vs hq => by
    rcases hq with (hq | ⟨u, hq⟩) | hq
    · exact .inl (.inl (e _ _ hq))
    · exact .inl (.inr ⟨u, e _ _ hq⟩)
    · exact .inr hq
  lst := fun q vs hq n => ⟨e _ _ hq, n⟩
  frz := fun q u x hq => e _ _ hq
  live := fun _ _ h => .inl h
  prot := fun q hp u hq => ⟨hp, e _ _ hq⟩
theorem HR.same (h : HR K Cl β H st) (e : Same H H') : HR K Cl β H' st where
  len := h.len
  inj := h.inj
  ob := fun i a ob hi ho => by
    have r := h.ob i a ob hi ho
    obtain ⟨u, hu, _⟩ := r.some
    exact r.ext (Ext.same e) (by rw [e _ _ hu, hu])
  dead := h.dead
  prot := fun q hq => by
    obtain ⟨⟨u, hu⟩, n⟩ := h.prot q hq
    exact ⟨⟨u, e _ _ hu⟩, n⟩

/-! ### a new object of the store -/
theorem push_at {p : Addr} {i : Nat} {o : Option Addr} (h : (β.push p).l[i]? = some o) : β.l[i]? = some o ∨ (i = β.l.length ∧ o = some p) := by
  by_cases hl : i < β.l.length
  · rw [List.getElem?_append_left hl] at h
    exact .inl h
  · rw [List.getElem?_append_right (by omega)] at h
    cases hk : i - β.l.length with
    | zero =>
      rw [hk] at h
      exact .inr ⟨by omega, (Option.some.inj h).symm⟩
    | succ k => rw [hk] at h; simp at h
theorem Ext.push {p : Addr} {o : HO} (h : H p = none) : Ext K β H (β.push p) (upd H p o) where
  tup := fun q vs hq => sqT_ne h hq
  lst := fun q vs hq n => ⟨by rw [upd_ne (ne_of_none hq h)]; exact hq, fun i hi => by
    have hne := ne_of_none hq h
    rcases push_at hi with hi | ⟨_, hi⟩
    · exact n.1 i hi
    · exact hne (Option.some.inj hi), n.2⟩
  frz := fun q u x hq => by rw [upd_ne (ne_of_none hq h)]; exact hq
  live := fun i o hi => .inl (by rw [List.getElem?_append_left (List.getElem?_eq_some_iff.mp hi).1]; exact hi)
  prot := fun q hp u hq => ⟨hp, by rw [upd_ne (ne_of_none hq h)]; exact hq⟩
theorem HR.push (h : HR K Cl β H st) {p : Addr} {o : HO} {ob : Ob} (hp : H p = none) (r : RO K Cl (β.push p) (upd H p o) p ob) : HR K Cl (β.push p) (upd H p o) (st ++ [ob]) where
  len := by
    show (β.l ++ [some p]).length = _
    rw [List.length_append, List.length_append, h.len] <;> rfl
  inj := fun i j a hi hj => by
    have nf := (h.fresh hp).1
    rcases push_at hi with hi | ⟨hi, ei⟩
    · rcases push_at hj with hj | ⟨hj, ej⟩
      · exact h.inj i j a hi hj
      · cases ej
        exact absurd hi (nf i)
    · rcases push_at hj with hj | ⟨hj, ej⟩
      · cases ei
        exact absurd hj (nf j)
      · rw [hi, hj]
  ob := fun i a ob' hi ho => by
    rcases push_at hi with hi | ⟨hi, ei⟩
    · have hl := h.len' hi
      rw [List.getElem?_append_left hl] at ho
      have r' := h.ob i a ob' hi ho
      obtain ⟨u, hu, _⟩ := r'.some
      exact r'.ext (Ext.push hp) (upd_ne (ne_of_none hu hp))
    · cases ei
      rename_i hi2
      have hi3 : i = st.length := by rw [← h.len]; exact hi2
      rw [hi3, List.getElem?_append_right (Nat.le_refl _), Nat.sub_self] at ho
      cases ho
      exact r
  dead := fun i hi => by
    rcases push_at hi with hi | ⟨_, ei⟩
    · have hl := h.len' hi
      rw [List.getElem?_append_left hl]
      exact h.dead i hi
    · cases ei
  prot := fun q hq => by
    obtain ⟨⟨u, hu⟩, n⟩ := h.prot q hq
    have hne := ne_of_none hu hp
    refine ⟨⟨u, by rw [upd_ne hne]; exact hu⟩, fun i hi => ?_⟩
    rcases push_at hi with hi | ⟨_, hi⟩
    · exact n i hi
    · exact hne (Option.some.inj hi)
theorem push_last {p : Addr} : (β.push p).l[β.l.length]? = some (some p) := by
  show (β.l ++ [some p])[β.l.length]? = _
  simp

/-! ### an object of the store changes -/
theorem Ext.mut (hr : HR K Cl β H st) {i : Nat} {a : Addr} {o u : HO} (hb : β.l[i]? = some (some a)) (hu : H a = some u) (hm : Mut (some u)) : Ext K β H β (upd H a o) where
  tup := fun q vs hq => by
    rcases hq with (hq | ⟨x, hq⟩) | hq
    · exact .inl (.inl (by rw [upd_ne (fun e => by subst e; rw [hu] at hq; cases hq; exact hm)]; exact hq))
    · exact .inl (.inr ⟨x, by rw [upd_ne (fun e => by subst e; rw [hu] at hq; cases hq; exact hm)]; exact hq⟩)
    · exact .inr hq
  lst := fun q vs hq n => ⟨by rw [upd_ne (fun e => by subst e; exact n.1 i hb)]; exact hq, n⟩
  frz := fun q x y hq => by rw [upd_ne (fun e => by subst e; rw [hu] at hq; cases hq; exact hm)]; exact hq
  live := fun _ _ h => .inl h
  prot := fun q hp u hq => ⟨hp, by rw [upd_ne (fun e => by subst e; exact (hr.prot _ hp).2 i hb)]; exact hq⟩
theorem HR.mut (h : HR K Cl β H st) {i : Nat} {a : Addr} {o u : HO} {ob : Ob} (hb : β.l[i]? = some (some a)) (hu : H a = some u) (hm : Mut (some u)) (r : RO K Cl β (upd H a o) a ob) : HR K Cl β (upd H a o) (st.set i ob) where
  len := by rw [List.length_set]; exact h.len
  inj := h.inj
  ob := fun j b ob' hj ho => by
    by_cases e : i = j
    · subst e
      rw [hb] at hj
      cases hj
      rw [List.getElem?_set_self (h.len' hb)] at ho
      cases ho
      exact r
    · rw [List.getElem?_set_ne e] at ho
      have hne : b ≠ a := fun z => by
        subst z
        exact e (h.inj i j b hb hj)
      exact (h.ob j b ob' hj ho).ext (Ext.mut h hb hu hm) (upd_ne hne)
  dead := fun j hj => by
    have e : i ≠ j := fun z => by
      subst z
      rw [hb] at hj
      cases hj
    rw [List.getElem?_set_ne e]
    exact h.dead j hj
  prot := fun q hq => by
    obtain ⟨⟨u, hu'⟩, n⟩ := h.prot q hq
    refine ⟨?_, n⟩
    by_cases e : q = a
    · subst e
      exact absurd hb (n i)
    · exact ⟨u, by rw [upd_ne e]; exact hu'⟩

/-! ### an object of the store is let go: its list becomes a value -/
theorem let_at {i j : Nat} {o : Option Addr} (h : (β.letgo i).l[j]? = some o) : (j = i ∧ o = none) ∨ (j ≠ i ∧ β.l[j]? = some o) := by
  by_cases e : i = j
  · subst e
    by_cases hl : i < β.l.length
    · rw [List.getElem?_set_self hl] at h
      exact .inl ⟨rfl, (Option.some.inj h).symm⟩
    · rw [List.getElem?_eq_none (by rw [List.length_set]; omega)] at h
      cases h
  · rw [List.getElem?_set_ne e] at h
    exact .inr ⟨fun z => e z.symm, h⟩
theorem Ext.letgo {i : Nat} : Ext K β H (β.letgo i) H where
  tup := fun q vs hq => hq
  lst := fun q vs hq n => ⟨hq, fun j hj => by
    rcases let_at hj with ⟨_, e⟩ | ⟨_, e⟩
    · cases e
    · exact n.1 j e, n.2⟩
  frz := fun q x y hq => hq
  live := fun j o hj => by
    by_cases e : i = j
    · subst e
      exact .inr (by rw [List.getElem?_set_self (List.getElem?_eq_some_iff.mp hj).1])
    · exact .inl (by rw [List.getElem?_set_ne e]; exact hj)
  prot := fun q hp u hq => ⟨hp, hq⟩
theorem HR.letgo (h : HR K Cl β H st) {i : Nat} {a : Addr} (hb : β.l[i]? = some (some a)) : HR K Cl (β.letgo i) H (st.set i .dead) where
  len := by
    show (β.l.set i none).length = _
    rw [List.length_set, List.length_set]
    exact h.len
  inj := fun j k b hj hk => by
    rcases let_at hj with ⟨_, e⟩ | ⟨_, e⟩
    · cases e
    · rcases let_at hk with ⟨_, e'⟩ | ⟨_, e'⟩
      · cases e'
      · exact h.inj j k b e e'
  ob := fun j b ob hj ho => by
    rcases let_at hj with ⟨_, e⟩ | ⟨ne, e⟩
    · cases e
    · rw [List.getElem?_set_ne (fun z => ne z.symm)] at ho
      exact (h.ob j b ob e ho).ext Ext.letgo rfl
  dead := fun j hj => by
    rcases let_at hj with ⟨e, _⟩ | ⟨ne, e⟩
    · subst e
      rw [List.getElem?_set_self (h.len' hb)]
    · rw [List.getElem?_set_ne (fun z => ne z.symm)]
      exact h.dead j e
  prot := fun q hq => by
    obtain ⟨hu, n⟩ := h.prot q hq
    refine ⟨hu, fun j hj => ?_⟩
    rcases let_at hj with ⟨_, e⟩ | ⟨_, e⟩
    · cases e
    · exact n j e

/-! ### a list that a comprehension makes: guarded, outside of the store -/
theorem Ext.guard {p : Addr} {o : HO} (h : H p = none) : Ext K β H (β.guard p) (upd H p o) where
  tup := fun q vs hq => sqT_ne h hq
  lst := fun q vs hq n => ⟨by rw [upd_ne (ne_of_none hq h)]; exact hq, n.1, fun z => by
    rcases List.mem_cons.mp z with z | z
    · exact ne_of_none hq h z
    · exact n.2 z⟩
  frz := fun q u x hq => by rw [upd_ne (ne_of_none hq h)]; exact hq
  live := fun _ _ h => .inl h
  prot := fun q hp u hq => ⟨List.mem_cons_of_mem _ hp, by rw [upd_ne (ne_of_none hq h)]; exact hq⟩
theorem HR.guard (h : HR K Cl β H st) {p : Addr} {o : HO} (hp : H p = none) : HR K Cl (β.guard p) (upd H p o) st where
  len := h.len
  inj := h.inj
  ob := fun i a ob hi ho => by
    have r := h.ob i a ob hi ho
    obtain ⟨u, hu, _⟩ := r.some
    exact r.ext (Ext.guard hp) (upd_ne (ne_of_none hu hp))
  dead := h.dead
  prot := fun q hq => by
    rcases List.mem_cons.mp hq with e | hq
    · subst e
      exact ⟨⟨o, upd_same⟩, (h.fresh hp).1⟩
    · obtain ⟨⟨u, hu⟩, n⟩ := h.prot q hq
      exact ⟨⟨u, by rw [upd_ne (ne_of_none hu hp)]; exact hu⟩, n⟩
/-- the guarded list at p has changed: what was known is known again -/
theorem Ext.gset {p : Addr} {vs : List V} {o : HO} (hu : H p = some (.lst vs)) (hp : p ∈ β.pr) (β0 : Bt) (H0 : Hp) (e : Ext K β0 H0 β H) (h0 : H0 p = none) : Ext K β0 H0 β (upd H p o) where
  tup := fun q us hq => by
    have hq' := e.tup q us hq
    rcases hq with (hq | ⟨x, hq⟩) | hq
    · rcases hq' with (hq' | ⟨x, hq'⟩) | hq'
      · exact .inl (.inl (by rw [upd_ne (ne_of_none hq h0)]; exact hq'))
      · exact .inl (.inr ⟨x, by rw [upd_ne (ne_of_none hq h0)]; exact hq'⟩)
      · exact .inr hq'
    · rcases hq' with (hq' | ⟨x, hq'⟩) | hq'
      · exact .inl (.inl (by rw [upd_ne (ne_of_none hq h0)]; exact hq'))
      · exact .inl (.inr ⟨x, by rw [upd_ne (ne_of_none hq h0)]; exact hq'⟩)
      · exact .inr hq'
    · exact .inr hq
  lst := fun q us hq n => ⟨by rw [upd_ne (ne_of_none hq h0)]; exact (e.lst q us hq n).1, (e.lst q us hq n).2⟩
  frz := fun q u x hq => by rw [upd_ne (ne_of_none hq h0)]; exact e.frz q u x hq
  live := e.live
  prot := fun q hq u hu => ⟨(e.prot q hq u hu).1, by rw [upd_ne (ne_of_none hu h0)]; exact (e.prot q hq u hu).2⟩
/-- the same for what was reckoned while the list was guarded -/
structure Keep (K : PySem.W.Frag) (β : Bt) (H H' : Hp) : Prop where
  tup : ∀ p vs, SqT K H p vs → SqT K H' p vs
  lst : ∀ p vs, H p = some (.lst vs) → NotIn β p → H' p = some (.lst vs)
  frz : ∀ p o u, H p = some (.frz o u) → H' p = some (.frz o u)
mutual
theorem RV.keep (e : Keep K β H H') : ∀ {w : W} {v : V}, RV K β H w v → RV K β H' w v
  | _, _, .non => .non
  | _, _, .bl b => .bl b
  | _, _, .int i => .int i
  | _, _, .str x => .str x
  | _, _, .tup h r => .tup (e.tup _ _ h) (RVs.keep e r)
  | _, _, .lst h n r => .lst (e.lst _ _ h n) n (RVs.keep e r)
  | _, _, .xst h r => .xst (h.imp (fun x => x) fun ⟨o, x⟩ => ⟨o, e.frz _ _ _ x⟩) (RVs.keep e r)
  | _, _, .ref h => .ref h
  | _, _, .dead h => .dead h
theorem RVs.keep (e : Keep K β H H') : ∀ {ws : List W} {vs : List V}, RVs K β H ws vs → RVs K β H' ws vs
  | _, _, .nil => .nil
  | _, _, .cons h r => .cons (RV.keep e h) (RVs.keep e r)
end
theorem RF.keep {κ : Type} (e : Keep K β H H') : ∀ {fs : List (κ × W)} {gs : List (κ × V)}, RF K β H fs gs → RF K β H' fs gs
  | _, _, .nil => .nil
  | _, _, .cons h r => .cons (h.keep e) (RF.keep e r)
theorem Keep.gset {p : Addr} {vs : List V} {o : HO} (hu : H p = some (.lst vs)) (hp : p ∈ β.pr) : Keep K β H (upd H p o) where
  tup := fun q us hq => by
    rcases hq with (hq | ⟨x, hq⟩) | hq
    · exact .inl (.inl (by rw [upd_ne (fun e => by subst e; rw [hu] at hq; cases hq)]; exact hq))
    · exact .inl (.inr ⟨x, by rw [upd_ne (fun e => by subst e; rw [hu] at hq; cases hq)]; exact hq⟩)
    · exact .inr hq
  lst := fun q us hq n => by rw [upd_ne (fun e => by subst e; exact n.2 hp)]; exact hq
  frz := fun q x y hq => by rw [upd_ne (fun e => by subst e; rw [hu] at hq; cases hq)]; exact hq
theorem RO.keep {a : Addr} {ob : Ob} (e : Keep K β H H') (ha : H' a = H a) (r : RO K Cl β H a ob) : RO K Cl β H' a ob := by
  cases ob with
  | lst ws => obtain ⟨vs, h, r⟩ := r; exact ⟨vs, ha.trans h, r.keep e⟩
  | dK ws => obtain ⟨vs, h, r⟩ := r; exact ⟨vs, ha.trans h, r.keep e⟩
  | dT ws => obtain ⟨vs, h, r⟩ := r; exact ⟨vs, ha.trans h, r.keep e⟩
  | ins c fs => obtain ⟨dx, vs, h, r⟩ := r; exact ⟨dx, vs, ha.trans h, r.keep e⟩
  | dead => exact r.elim
theorem HR.gset (h : HR K Cl β H st) {p : Addr} {vs : List V} {o : HO} (hu : H p = some (.lst vs)) (hp : p ∈ β.pr) : HR K Cl β (upd H p o) st where
  len := h.len
  inj := h.inj
  ob := fun i a ob hi ho => (h.ob i a ob hi ho).keep (Keep.gset hu hp) (upd_ne fun e => by subst e; exact (h.prot _ hp).2 i hi)
  dead := h.dead
  prot := fun q hq => by
    obtain ⟨⟨u, hu'⟩, n⟩ := h.prot q hq
    refine ⟨?_, n⟩
    by_cases e : q = p
    · subst e
      exact ⟨o, upd_same⟩
    · exact ⟨u, by rw [upd_ne e]; exact hu'⟩
/-- the guard is taken away -/
theorem RO.drop {a : Addr} {ob : Ob} (hl : β'.l = β.l) (hp : ∀ p, p ∈ β'.pr → p ∈ β.pr) (r : RO K Cl β H a ob) : RO K Cl β' H a ob := by
  cases ob with
  | lst ws => obtain ⟨vs, h, r⟩ := r; exact ⟨vs, h, r.drop' hl hp⟩
  | dK ws => obtain ⟨vs, h, r⟩ := r; exact ⟨vs, h, r.drop' hl hp⟩
  | dT ws => obtain ⟨vs, h, r⟩ := r; exact ⟨vs, h, r.drop' hl hp⟩
  | ins c fs => obtain ⟨dx, vs, h, r⟩ := r; exact ⟨dx, vs, h, r.drop' hl hp⟩
  | dead => exact r.elim
theorem HR.drop (h : HR K Cl β H st) (hl : β'.l = β.l) (hp : ∀ p, p ∈ β'.pr → p ∈ β.pr) : HR K Cl β' H st where
  len := by rw [hl]; exact h.len
  inj := by rw [hl]; exact h.inj
  ob := fun i a ob hi ho => by
    rw [hl] at hi
    exact (h.ob i a ob hi ho).drop hl hp
  dead := by rw [hl]; exact h.dead
  prot := fun q hq => by
    rw [hl]
    exact h.prot q (hp q hq)
/-- from ahead of the guard to behind it -/
theorem Ext.drop {p : Addr} (e : Ext K β H β' H') (h0 : ∀ q, q ∈ β.pr → ∃ o, H q = some o) (hp : H p = none) : Ext K β H ⟨β'.l, β'.pr.filter fun q => decide (q ≠ p)⟩ H' where
  tup := e.tup
  lst := fun q us hq n => ⟨(e.lst q us hq n).1, (e.lst q us hq n).2.1, fun z => (e.lst q us hq n).2.2 (List.mem_filter.mp z).1⟩
  frz := e.frz
  live := e.live
  prot := fun q hq u hu => ⟨List.mem_filter.mpr ⟨(e.prot q hq u hu).1, decide_eq_true (ne_of_none hu hp)⟩, (e.prot q hq u hu).2⟩
end
end Mi
/-! The mirror layer, part C: expressions. -/
namespace Mi
open PySem L2

/-! ### judgements: the hand layer's term exists, and its reading follows from the mirror -/
structure JE (X : Cx) (Cl : Nat → Addr) (E : XK) (e : Expr) (m : ME) : Prop where
  ex : ∃ t, PE X e t ∧ SE X.K Cl E t m
structure JA (X : Cx) (Cl : Nat → Addr) (E : XK) (es : List Expr) (m : MA) : Prop where
  ex : ∃ t, PA X es t ∧ SA X.K Cl E t m
structure JT (X : Cx) (Cl : Nat → Addr) (E : XK) (e : Expr) (m : MT) : Prop where
  ex : ∃ t, PT X e t ∧ ST X.K Cl E t m
structure JW (X : Cx) (Cl : Nat → Addr) (E : XK) (e : Expr) (m : MT) : Prop where
  ex : ∃ t, PW X e t ∧ ST X.K Cl E t m

section
variable {K : PySem.W.Frag} {Cl : Nat → Addr} {E : XK} {β : Bt} {H : Hp} {α α' ω ω' : Type} {R1 : Bt → Hp → α → ω → Prop} {R2 : Bt → Hp → α' → ω' → Prop}
theorem PoG.bind {Q : ω' → Hp → Prop} {Q1 : ω → Hp → Prop} {o : Out α} {f : α → Sto → Out α'} (h : PoG K Cl R2 E β H Q (o.bind f))
    (k : ∀ a st1 β1 H1 v, o = .ok a st1 → Ext K β H β1 H1 → HR K Cl β1 H1 st1 → R1 β1 H1 a v → PoG K Cl R2 E β1 H1 Q (f a st1) → Q1 v H1) : PoG K Cl R1 E β H Q1 o := by
  cases o with
  | ok a st => exact fun β1 H1 v e hr r => k a st β1 H1 v rfl e hr r (PoG.ext e h)
  | exc c fs st => exact h
  | stuck => exact h
theorem PoG.val {Q : ω' → Hp → Prop} {a : α'} {st : Sto} {v : ω'} (h : PoG K Cl R2 E β H Q (.ok a st)) (hr : HR K Cl β H st) (r : R2 β H a v) : Q v H := h β H v (Ext.refl K β H) hr r
end

/-! ### values as data -/
mutual
@[simp] def toPy : W → Option PyData
  | .non => some .none
  | .bl b => some (.bool b)
  | .int i => some (.int i)
  | .str x => some (.str x)
  | .tup xs => (toPys xs).map .tuple
  | .lst xs => (toPys xs).map .list
  | .xst xs => (toPys xs).map .list
  | .ref _ => none
@[simp] def toPys : List W → Option (List PyData)
  | [] => some []
  | w :: ws => match toPy w, toPys ws with
    | some d, some ds => some (d :: ds)
    | _, _ => none
end
/-- a list's items -/
@[simp] def asL (w : W) (st : Sto) : Option (List W) := match w with
  | .lst ws => some ws
  | .xst ws => some ws
  | .ref i => match st[i]? with
    | some (.lst ws) => some ws
    | _ => none
  | _ => none
/-- .. of one of the call's own -/
@[simp] def asLM (w : W) (st : Sto) : Option (List W) := match w with
  | .lst ws => some ws
  | .ref i => match st[i]? with
    | some (.lst ws) => some ws
    | _ => none
  | _ => none
@[simp] def toPyS (w : W) (st : Sto) : Option PyData := match w with
  | .ref i => match st[i]? with
    | some (.lst ws) => (toPys ws).map .list
    | _ => none
  | w => toPy w
@[simp] def truth (w : W) (st : Sto) : Option Bool := match w with
  | .non => some false
  | .bl b => some b
  | .int i => some (i != 0)
  | .str x => if x.length ≤ sizeLine then some ((x.length : Int) != 0) else none
  | .tup xs => some (!xs.isEmpty)
  | .lst xs => some (!xs.isEmpty)
  | .xst xs => some (!xs.isEmpty)
  | .ref i => match st[i]? with
    | some (.lst xs) => some (!xs.isEmpty)
    | some (.dK xs) => some (!xs.isEmpty)
    | _ => none
@[simp] def flatW : W → Bool
  | .non => true | .bl _ => true | .int _ => true | .str _ => true | _ => false
@[simp] def toV : W → V
  | .non => .non | .bl b => .bl b | .int i => .int i | .str x => .str x | _ => .non

section
variable {K : PySem.W.Frag} {Cl : Nat → Addr} {E : XK} {β : Bt} {H : Hp} {st : Sto}
theorem KL.sq {a : Addr} {vs : List V} (h : KL K a vs ∨ ∃ o, H a = some (.frz o (.lst vs))) : SqL K H a vs := h.elim (fun x => .inr x) fun ⟨o, x⟩ => .inl (.inr ⟨o, x⟩)
mutual
theorem toPy_dp : ∀ {w : W} {v : V} {d : PyData}, RV K β H w v → toPy w = some d → Dp K H v d
  | _, _, _, .non, h => by cases h; exact .non
  | _, _, _, .bl b, h => by cases h; exact .bl b
  | _, _, _, .int i, h => by cases h; exact .int i
  | _, _, _, .str x, h => by cases h; exact .str x
  | _, _, _, .tup (ws := ws) hs r, h => by
    simp only [toPy, Option.map_eq_some_iff] at h
    obtain ⟨ds, h1, h2⟩ := h
    subst h2
    exact .tup hs (toPys_dp r h1)
  | _, _, _, .lst hs n r, h => by
    simp only [toPy, Option.map_eq_some_iff] at h
    obtain ⟨ds, h1, h2⟩ := h
    subst h2
    exact .lst (SqL.of hs) (toPys_dp r h1)
  | _, _, _, .xst hs r, h => by
    simp only [toPy, Option.map_eq_some_iff] at h
    obtain ⟨ds, h1, h2⟩ := h
    subst h2
    exact .lst (KL.sq hs) (toPys_dp r h1)
  | _, _, _, .ref _, h => by cases h
  | _, _, _, .dead _, h => by cases h
theorem toPys_dp : ∀ {ws : List W} {vs : List V} {ds : List PyData}, RVs K β H ws vs → toPys ws = some ds → DpAll K H vs ds
  | _, _, _, .nil, h => by cases h; exact .nil
  | _, _, _, .cons (w := w) (ws := ws) r rr, h => by
    simp only [toPys] at h
    cases h1 : toPy w with
    | none => rw [h1] at h; cases h
    | some d =>
      cases h2 : toPys ws with
      | none => rw [h1, h2] at h; cases h
      | some ds =>
        rw [h1, h2] at h
        cases h
        exact .cons (toPy_dp r h1) (toPys_dp rr h2)
end
theorem asL_ok {w : W} {v : V} {ws : List W} (hr : HR K Cl β H st) (r : RV K β H w v) (h : asL w st = some ws) : ∃ p vs, v = .ref p ∧ SqL K H p vs ∧ RVs K β H ws vs := by
  cases w with
  | lst xs => cases h; cases r with | lst h1 _ h3 => exact ⟨_, _, rfl, SqL.of h1, h3⟩
  | xst xs => cases h; cases r with | xst h1 h3 => exact ⟨_, _, rfl, KL.sq h1, h3⟩
  | ref i =>
    simp only [asL] at h
    split at h
    · rename_i e
      cases h
      obtain ⟨a, rfl, _, vs, h1, h2⟩ := r.atRef hr e (by intro z; cases z)
      exact ⟨a, vs, rfl, SqL.of h1, h2⟩
    · cases h
  | _ => cases h
theorem asLM_ok {w : W} {v : V} {ws : List W} (hr : HR K Cl β H st) (r : RV K β H w v) (h : asLM w st = some ws) : ∃ p vs, v = .ref p ∧ H p = some (.lst vs) ∧ RVs K β H ws vs := by
  cases w with
  | lst xs => cases h; cases r with | lst h1 _ h3 => exact ⟨_, _, rfl, h1, h3⟩
  | ref i =>
    simp only [asLM] at h
    split at h
    · rename_i e
      cases h
      obtain ⟨a, rfl, _, vs, h1, h2⟩ := r.atRef hr e (by intro z; cases z)
      exact ⟨a, vs, rfl, h1, h2⟩
    · cases h
  | _ => cases h
theorem toPyS_dp {w : W} {v : V} {d : PyData} (hr : HR K Cl β H st) (r : RV K β H w v) (h : toPyS w st = some d) : Dp K H v d := by
  cases w with
  | ref i =>
    simp only [toPyS] at h
    split at h
    · rename_i e
      obtain ⟨a, rfl, _, vs, h1, h2⟩ := r.atRef hr e (by intro z; cases z)
      simp only [Option.map_eq_some_iff] at h
      obtain ⟨ds, h3, h4⟩ := h
      subst h4
      exact .lst (SqL.of h1) (toPys_dp h2 h3)
    · cases h
  | _ => exact toPy_dp r h
theorem RVs.emp {ws : List W} {vs : List V} (r : RVs K β H ws vs) : ws.isEmpty = vs.isEmpty := by cases r <;> rfl
theorem truth_ok {w : W} {v : V} {k : Bool} (hr : HR K Cl β H st) (r : RV K β H w v) (h : truth w st = some k) : TruV K v H k := by
  cases w with
  | non => cases h; cases r; rfl
  | bl b => cases h; cases r; rfl
  | int i => cases h; cases r; rfl
  | str x =>
    simp only [truth] at h
    split at h
    · cases h
      cases r
      exact ⟨by assumption, rfl⟩
    · cases h
  | tup xs => cases h; cases r with | tup h1 h2 => exact .inr (.inl ⟨_, h1, by rw [h2.emp]⟩)
  | lst xs => cases h; cases r with | lst h1 _ h2 => exact .inl ⟨_, SqL.of h1, by rw [h2.emp]⟩
  | xst xs => cases h; cases r with | xst h1 h2 => exact .inl ⟨_, KL.sq h1, by rw [h2.emp]⟩
  | ref i =>
    simp only [truth] at h
    split at h
    · rename_i e
      cases h
      obtain ⟨a, rfl, _, vs, h1, h2⟩ := r.atRef hr e (by intro z; cases z)
      exact .inl ⟨_, SqL.of h1, by rw [h2.emp]⟩
    · rename_i e
      cases h
      obtain ⟨a, rfl, _, vs, h1, h2⟩ := r.atRef hr e (by intro z; cases z)
      exact .inr (.inr ⟨_, h1, by cases h2 <;> rfl⟩)
    · cases h
theorem flat_v {w : W} {v : V} (r : RV K β H w v) (h : flatW w = true) : v = toV w ∧ flatV v = true := by
  cases r <;> first | exact ⟨rfl, rfl⟩ | cases h
theorem flat_vs : ∀ {ws : List W} {vs : List V}, RVs K β H ws vs → ws.all flatW = true → vs = ws.map toV ∧ vs.all flatV = true
  | _, _, .nil, _ => ⟨rfl, rfl⟩
  | _, _, .cons r rr, h => by
    simp only [List.all_cons, Bool.and_eq_true] at h
    obtain ⟨e, f⟩ := flat_v r h.1
    obtain ⟨e', f'⟩ := flat_vs rr h.2
    subst e e'
    exact ⟨rfl, by simp only [List.all_cons, Bool.and_eq_true]; exact ⟨f, f'⟩⟩
end

/-! ### names and constants -/
@[simp] def mVar (i : Nat) : ME := fun s st => match s[i]? with
  | some (some w) => .ok w st
  | _ => .stuck
@[simp] def mC (w : W) : ME := fun _ st => .ok w st
section
variable {X : Cx} {Cl : Nat → Addr} {E : XK} {pos : Pos}
theorem se_var {K : PySem.W.Frag} {i : Nat} : SE K Cl E (tVar i) (mVar i) := fun β H σ s st Q hr hs h => by
  unfold mVar at h
  split at h
  · rename_i w e
    obtain ⟨v, h1, h2⟩ := hs.2 i w e
    exact ⟨v, h1, PoG.val h hr h2⟩
  · exact h.elim
theorem je_var (i : Nat) {x : Str} (hN : X.N[i]? = some x := by rfl) (hv : Vis X.env.scope x := by first | exact Or.inl rfl | exact Or.inr (Or.inl rfl) | exact Or.inr (Or.inr rfl)) (hd : (x == ("__debug__" : Str)) = false := by decide)
    (hcd : (x == ("__classdict__" : Str)) = false := by decide) : JE X Cl E (.Name x pos) (mVar i) := ⟨_, pe_var hN hv hd hcd, se_var⟩
theorem se_c {K : PySem.W.Frag} {w : W} {v : V} (r : ∀ β H, RV K β H w v) : SE K Cl E (tC v) (mC w) := fun β H σ s st Q hr hs h => PoG.val h hr (r β H)
theorem je_int {i j} : JE X Cl E (.Constant (.int i) j pos) (mC (.int i)) := ⟨_, pe_int, se_c fun _ _ => .int i⟩
theorem je_bl {b j} : JE X Cl E (.Constant (.bool b) j pos) (mC (.bl b)) := ⟨_, pe_bl, se_c fun _ _ => .bl b⟩
theorem je_non {j} : JE X Cl E (.Constant .none j pos) (mC .non) := ⟨_, pe_non, se_c fun _ _ => .non⟩
theorem je_str {x j} : JE X Cl E (.Constant (.str x) j pos) (mC (.str x)) := ⟨_, pe_str, se_c fun _ _ => .str x⟩
/-- a constant of the module: what its name holds -/
structure GC (K : PySem.W.Frag) (mg : Str → Option Value) (x : Str) (w : W) : Prop where
  ex : ∃ u v, mg x = some u ∧ RelV v u ∧ ∀ β H, RV K β H w v
theorem je_glob {x : Str} {w : W} (g : GC X.K X.mg x w) (hg : Gl X x := by rfl) (hd : (x == ("__debug__" : Str)) = false := by decide) : JE X Cl E (.Name x pos) (mC w) := by
  obtain ⟨u, v, hm, r, hv⟩ := g.ex
  exact ⟨_, pe_glob hg hm r hd, se_c hv⟩
end

/-! ### operators -/
abbrev M2 := W → W → Sto → Out W
@[simp] def mOp (r : M2) (a b : ME) : ME := fun s st => (a s st).bind fun x st1 => (b s st1).bind fun y st2 => r x y st2
@[simp] def mUn (r : W → Sto → Out W) (a : ME) : ME := fun s st => (a s st).bind fun x st1 => r x st1
def SOp (K : PySem.W.Frag) (Cl : Nat → Addr) (E : XK) (r : R2) (m : M2) : Prop :=
  ∀ β H st x y v u Q, HR K Cl β H st → RV K β H x v → RV K β H y u → Po K Cl E β H Q (m x y st) → r v u H Q
def SUn (K : PySem.W.Frag) (Cl : Nat → Addr) (E : XK) (r : V → Hp → VK → Prop) (m : W → Sto → Out W) : Prop :=
  ∀ β H st x v Q, HR K Cl β H st → RV K β H x v → Po K Cl E β H Q (m x st) → r v H Q
section
variable {X : Cx} {Cl : Nat → Addr} {E : XK} {pos : Pos} {K : PySem.W.Frag} {ta tb : TE} {ma mb : ME} {a b : Expr}
theorem se_op {r : R2} {m : M2} (hm : SOp K Cl E r m) (ha : SE K Cl E ta ma) (hb : SE K Cl E tb mb) : SE K Cl E (tOp r ta tb) (mOp m ma mb) := fun β H σ s st Q hr hs h =>
  ha β H σ s st _ hr hs (h.bind fun x st1 β1 H1 v _ e1 hr1 rx h1 => hb β1 H1 σ s st1 _ hr1 (hs.ext e1) (h1.bind fun y st2 β2 H2 u _ e2 hr2 ry h2 => hm β2 H2 st2 x y v u Q hr2 (rx.ext e2) ry h2))
theorem se_un {r : V → Hp → VK → Prop} {m : W → Sto → Out W} (hm : SUn K Cl E r m) (ha : SE K Cl E ta ma) : SE K Cl E (tUn r ta) (mUn m ma) := fun β H σ s st Q hr hs h =>
  ha β H σ s st _ hr hs (h.bind fun x st1 β1 H1 v _ e1 hr1 rx h1 => hm β1 H1 st1 x v Q hr1 rx h1)
theorem je_op {op : Operator} {r : R2} {m : M2} (ho : OpR X (binaryOp op) r ∧ SOp X.K Cl E r m) (ha : JE X Cl E a ma) (hb : JE X Cl E b mb) : JE X Cl E (.BinOp a op b pos) (mOp m ma mb) := by
  obtain ⟨_, p1, q1⟩ := ha.ex
  obtain ⟨_, p2, q2⟩ := hb.ex
  exact ⟨_, pe_op ho.1 p1 p2, se_op ho.2 q1 q2⟩
theorem je_un {op : UnaryOp} {r : V → Hp → VK → Prop} {m : W → Sto → Out W} (ho : UnR X (unaryOp op) r ∧ SUn X.K Cl E r m) (ha : JE X Cl E a ma) : JE X Cl E (.UnaryOp op a pos) (mUn m ma) := by
  obtain ⟨_, p1, q1⟩ := ha.ex
  exact ⟨_, pe_un ho.1 p1, se_un ho.2 q1⟩
theorem je_cmp {op : CmpOp} {r : R2} {m : M2} (ho : OpR X (compareOp op) r ∧ SOp X.K Cl E r m) (ha : JE X Cl E a ma) (hb : JE X Cl E b mb) (hm : behindInMarks op b = false) : JE X Cl E (.Compare a [op] [b] pos) (mOp m ma mb) := by
  obtain ⟨_, p1, q1⟩ := ha.ex
  obtain ⟨_, p2, q2⟩ := hb.ex
  exact ⟨_, pe_cmpR ho.1 p1 p2 hm, se_op ho.2 q1 q2⟩
/-- a bool as a test -/
@[simp] def mTest (m : ME) : MT := fun s st => (m s st).bind fun x st1 => match x with
  | .bl k => .ok k st1
  | _ => .stuck
theorem st_test {t : TE} {m : ME} (h : SE K Cl E t m) : ST K Cl E (tTest t) (mTest m) := fun β H σ s st Q hr hs hp => h β H σ s st _ hr hs (hp.bind fun x st1 β1 H1 v _ e1 hr1 rx h1 => by
  cases x with
  | bl k => cases rx; exact ⟨k, rfl, PoG.val h1 hr1 rfl⟩
  | _ => exact h1.elim)
theorem jt_cmp {op : CmpOp} {r : R2} {m : M2} (ho : OpR X (compareOp op) r ∧ SOp X.K Cl E r m) (ha : JE X Cl E a ma) (hb : JE X Cl E b mb) (hm : behindInMarks op b = false) : JT X Cl E (.Compare a [op] [b] pos) (mTest (mOp m ma mb)) := by
  obtain ⟨_, p1, q1⟩ := ha.ex
  obtain ⟨_, p2, q2⟩ := hb.ex
  exact ⟨_, pt_cmpR ho.1 p1 p2 hm, st_test (se_op ho.2 q1 q2)⟩
/-- a value's truth as a test -/
@[simp] def mTru (m : ME) : MT := fun s st => (m s st).bind fun x st1 => match truth x st1 with
  | some k => .ok k st1
  | none => .stuck
theorem jt_tru (ha : JE X Cl E a ma) (he : ∀ whole, isTrue a X.env whole = (do let v ← whole; standAt a.pos; holding [v] (truthy v)) := by intro _; rfl) : JT X Cl E a (mTru ma) := by
  obtain ⟨t, p1, q1⟩ := ha.ex
  refine ⟨_, pt_truth p1 he, fun β H σ s st Q hr hs hp => q1 β H σ s st _ hr hs (hp.bind fun x st1 β1 H1 v _ e1 hr1 rx h1 => ?_)⟩
  split at h1
  · rename_i k e
    exact ⟨k, truth_ok hr1 rx e, PoG.val h1 hr1 rfl⟩
  · exact h1.elim
/-- a < b < c -/
@[simp] def mChain (r r' : M2) (a b c : ME) : ME := fun s st => (a s st).bind fun x st1 => (b s st1).bind fun y st2 => (r x y st2).bind fun z st3 => match z with
  | .bl true => (c s st3).bind fun w st4 => r' y w st4
  | .bl false => .ok (.bl false) st3
  | _ => .stuck
theorem se_chain {r r' : R2} {m m' : M2} {tc : TE} {mc : ME} (hm : SOp K Cl E r m) (hm' : SOp K Cl E r' m') (ha : SE K Cl E ta ma) (hb : SE K Cl E tb mb) (hc : SE K Cl E tc mc) : SE K Cl E (tChain r r' ta tb tc) (mChain m m' ma mb mc) := fun β H σ s st Q hr hs h =>
  ha β H σ s st _ hr hs (h.bind fun x st1 β1 H1 v _ e1 hr1 rx h1 => hb β1 H1 σ s st1 _ hr1 (hs.ext e1) (h1.bind fun y st2 β2 H2 u _ e2 hr2 ry h2 => hm β2 H2 st2 x y v u _ hr2 (rx.ext e2) ry (h2.bind fun z st3 β3 H3 zv _ e3 hr3 rz h3 => by
    cases z with
    | bl k =>
      cases rz
      refine ⟨k, rfl, ?_⟩
      cases k with
      | true => exact hc β3 H3 σ s st3 _ hr3 ((hs.ext e1).ext (e2.trans e3)) (h3.bind fun w st4 β4 H4 wv _ e4 hr4 rw h4 => hm' β4 H4 st4 y w u wv Q hr4 (ry.ext (e3.trans e4)) rw h4)
      | false => exact PoG.val h3 hr3 (.bl false)
    | _ => exact h3.elim)))
theorem je_chain {op op' : CmpOp} {r r' : R2} {m m' : M2} {c : Expr} {mc : ME} (ho : OpR X (compareOp op) r ∧ SOp X.K Cl E r m) (ho' : OpR X (compareOp op') r' ∧ SOp X.K Cl E r' m') (ha : JE X Cl E a ma) (hb : JE X Cl E b mb) (hc : JE X Cl E c mc) (hl : lastMarks [op, op'] [b, c] = false := by rfl) : JE X Cl E (.Compare a [op, op'] [b, c] pos) (mChain m m' ma mb mc) := by
  obtain ⟨_, p1, q1⟩ := ha.ex
  obtain ⟨_, p2, q2⟩ := hb.ex
  obtain ⟨_, p3, q3⟩ := hc.ex
  exact ⟨_, pe_chain ho.1 ho'.1 p1 p2 p3 (hm := hl), se_chain ho.2 ho'.2 q1 q2 q3⟩
end

/-! ### the operations by values -/
@[simp] def mAdd : M2 := fun x y st => match x, y with
  | .int i, .int j => .ok (.int (i + j)) st
  | .str a, .str b => if a.length + b.length ≤ sizeLine then .ok (.str (a ++ b)) st else .stuck
  | .tup a, .tup b => if a.length + b.length ≤ sizeLine then .ok (.tup (a ++ b)) st else .stuck
  | x, y => match asLM x st, asLM y st with
    | some a, some b => if a.length + b.length ≤ sizeLine then .ok (.lst (a ++ b)) st else .stuck
    | _, _ => .stuck
@[simp] def mSub : M2 := fun x y st => match x, y with
  | .int i, .int j => .ok (.int (i - j)) st
  | _, _ => .stuck
@[simp] def mulOk (i j : Int) : Bool := decide (i.natAbs < 2 ^ 64) || decide (j.natAbs < 2 ^ 64) || decide (i.natAbs.log2 + j.natAbs.log2 < 1000000)
@[simp] def mMul : M2 := fun x y st => match x, y with
  | .int i, .int j => if mulOk i j = true then .ok (.int (i * j)) st else .stuck
  | x, .int k => match asLM x st with
    | some a => if -(2 ^ 63) ≤ k ∧ k < 2 ^ 63 ∧ a.length * k.toNat ≤ sizeLine then .ok (.lst (List.replicate k.toNat a).flatten) st else .stuck
    | none => .stuck
  | _, _ => .stuck
@[simp] def mFdiv : M2 := fun x y st => match x, y with
  | .int i, .int j => if 0 < j ∧ j.natAbs.log2 < 9000 then .ok (.int (i / j)) st else .stuck
  | _, _ => .stuck
@[simp] def mMod : M2 := fun x y st => match x, y with
  | .int i, .int j => if 0 < j then .ok (.int (i % j)) st else .stuck
  | _, _ => .stuck
@[simp] def mPow : M2 := fun x y st => match x, y with
  | .int i, .int j => if 0 ≤ j ∧ j ≤ 1000000 ∧ i.natAbs < 2 ^ 64 then .ok (.int (i ^ j.toNat)) st else .stuck
  | _, _ => .stuck
@[simp] def mShl : M2 := fun x y st => match x, y with
  | .int i, .int j => if 0 ≤ j ∧ j ≤ 1000000 ∧ i.natAbs < 2 ^ 64 then .ok (.int (i * 2 ^ j.toNat)) st else .stuck
  | _, _ => .stuck
@[simp] def mShr : M2 := fun x y st => match x, y with
  | .int i, .int j => if 0 ≤ j then .ok (.int (i / 2 ^ j.toNat)) st else .stuck
  | _, _ => .stuck
@[simp] def mXor : M2 := fun x y st => match x, y with
  | .int i, .int j => .ok (.int (Builtin.bitXor i j)) st
  | _, _ => .stuck
@[simp] def mLt : M2 := fun x y st => match x, y with
  | .int i, .int j => .ok (.bl (decide (i < j))) st
  | _, _ => .stuck
@[simp] def mLe : M2 := fun x y st => match x, y with
  | .int i, .int j => .ok (.bl (decide (i ≤ j))) st
  | _, _ => .stuck
@[simp] def mGt : M2 := fun x y st => match x, y with
  | .int i, .int j => .ok (.bl (decide (j < i))) st
  | _, _ => .stuck
@[simp] def mGe : M2 := fun x y st => match x, y with
  | .int i, .int j => .ok (.bl (decide (j ≤ i))) st
  | _, _ => .stuck
@[simp] def mEq : M2 := fun x y st => match toPyS x st, toPyS y st with
  | some d, some e => if SeqAt.shaped d = true ∧ SeqAt.shaped e = true then .ok (.bl (PyData.eqv d e)) st else .stuck
  | _, _ => .stuck
@[simp] def mNe : M2 := fun x y st => match toPyS x st, toPyS y st with
  | some d, some e => if SeqAt.shaped d = true ∧ SeqAt.shaped e = true then .ok (.bl (!PyData.eqv d e)) st else .stuck
  | _, _ => .stuck
/-- is x in y -/
@[simp] def isIn (x y : W) (st : Sto) : Option Bool := match x, y with
  | x, .tup ws => if flatW x = true ∧ ws.all flatW = true then some (inV (toV x) (ws.map toV)) else none
  | .str a, .str b => some (!(Builtin.Str.occurrences b a 0 b.length 1).isEmpty)
  | x, y => match toPyS x st, toPyS y st with
    | some d, some (.list ds) => if SeqAt.shaped d = true ∧ SeqAt.shaped (.list ds) = true then some (ds.any fun z => PyData.eqv z d) else none
    | _, _ => none
@[simp] def mIn : M2 := fun x y st => match isIn x y st with
  | some b => .ok (.bl b) st
  | none => .stuck
@[simp] def mNotIn : M2 := fun x y st => match isIn x y st with
  | some b => .ok (.bl (!b)) st
  | none => .stuck
@[simp] def nonW (w : W) (st : Sto) : Option Bool := match w with
  | .non => some true
  | .ref i => match st[i]? with
    | some .dead => none
    | some _ => some false
    | none => none
  | _ => some false
@[simp] def mIsN : M2 := fun x y st => match y, nonW x st with
  | .non, some b => .ok (.bl b) st
  | _, _ => .stuck
@[simp] def mNotN : M2 := fun x y st => match y, nonW x st with
  | .non, some b => .ok (.bl (!b)) st
  | _, _ => .stuck
@[simp] def mIsB : M2 := fun x y st => match x, y with
  | .bl a, .bl b => .ok (.bl (decide (a = b))) st
  | _, _ => .stuck
@[simp] def mNotB : M2 := fun x y st => match x, y with
  | .bl a, .bl b => .ok (.bl (!decide (a = b))) st
  | _, _ => .stuck

theorem SOp.or1 {K : PySem.W.Frag} {Cl : Nat → Addr} {E : XK} {r r' : R2} {m : M2} (h : ∀ β H st x y v u Q, HR K Cl β H st → RV K β H x v → RV K β H y u → Po K Cl E β H Q (m x y st) → r v u H Q ∨ r' v u H Q) : SOp K Cl E (fun x y H Q => r x y H Q ∨ r' x y H Q) m := h

section
variable {X : Cx} {Cl : Nat → Addr} {E : XK}
theorem RV.new {K : PySem.W.Frag} {β : Bt} {H : Hp} {p : Addr} {ws : List W} {vs : List V} {st : Sto} (hr : HR K Cl β H st) (hp : H p = none) (r : RVs K β H ws vs) : RV K β (upd H p (.lst vs)) (.lst ws) (.ref p) :=
  .lst upd_same (hr.fresh hp) (r.ext (Ext.new hp))
theorem RV.newT {K : PySem.W.Frag} {β : Bt} {H : Hp} {p : Addr} {ws : List W} {vs : List V} (hp : H p = none) (r : RVs K β H ws vs) : RV K β (upd H p (.tup vs)) (.tup ws) (.ref p) :=
  .tup (SqT.of upd_same) (r.ext (Ext.new hp))
theorem Po.lst {K : PySem.W.Frag} {β : Bt} {H : Hp} {p : Addr} {ws : List W} {vs : List V} {st : Sto} {Q : VK} (h : Po K Cl E β H Q (.ok (.lst ws) st)) (hr : HR K Cl β H st) (hp : H p = none) (r : RVs K β H ws vs) : Q (.ref p) (upd H p (.lst vs)) :=
  h β _ _ (Ext.new hp) (hr.new hp) (RV.new hr hp r)
theorem Po.tup {K : PySem.W.Frag} {β : Bt} {H : Hp} {p : Addr} {ws : List W} {vs : List V} {st : Sto} {Q : VK} (h : Po K Cl E β H Q (.ok (.tup ws) st)) (hr : HR K Cl β H st) (hp : H p = none) (r : RVs K β H ws vs) : Q (.ref p) (upd H p (.tup vs)) :=
  h β _ _ (Ext.new hp) (hr.new hp) (RV.newT hp r)

theorem o_add : OpR X (binaryOp .Add) (fun x y H Q => rI0 (fun i j => .int (i + j)) x y H Q ∨ (∃ i j, x = .str i ∧ y = .str j ∧ i.length + j.length ≤ sizeLine ∧ Q (.str (i ++ j)) H) ∨ rCatA X.K x y H Q ∨ rCat x y H Q) ∧
    SOp X.K Cl E (fun x y H Q => rI0 (fun i j => .int (i + j)) x y H Q ∨ (∃ i j, x = .str i ∧ y = .str j ∧ i.length + j.length ≤ sizeLine ∧ Q (.str (i ++ j)) H) ∨ rCatA X.K x y H Q ∨ rCat x y H Q) mAdd := by
  refine ⟨op_add.or (op_add_str.or (op_catA.or op_cat)), fun β H st x y v u Q hr rx ry h => ?_⟩
  unfold mAdd at h
  split at h
  · cases rx; cases ry
    exact .inl ⟨_, _, rfl, rfl, PoG.val h hr (.int _)⟩
  · split at h
    · cases rx; cases ry
      exact .inr (.inl ⟨_, _, rfl, rfl, by assumption, PoG.val h hr (.str _)⟩)
    · exact h.elim
  · split at h
    · rename_i hz
      cases rx with
      | tup h1 r1 =>
        cases ry with
        | tup h2 r2 =>
          rename_i p vs q us
          refine .inr (.inr (.inl ⟨p, q, vs, us, rfl, rfl, h1, h2, by rw [← r1.length, ← r2.length]; exact hz, fun e => ?_, fun _ e => ?_, fun _ _ l hl => Po.tup h hr hl (r1.append r2)⟩))
          · subst e
            cases r1
            exact PoG.val h hr (.tup h2 r2)
          · subst e
            cases r2
            rw [List.append_nil] at h
            exact PoG.val h hr (.tup h1 r1)
    · exact h.elim
  · split at h
    · split at h
      · rename_i e1 e2 hz
        obtain ⟨p, vs, rfl, h1, r1⟩ := asLM_ok hr rx e1
        obtain ⟨q, us, rfl, h2, r2⟩ := asLM_ok hr ry e2
        exact .inr (.inr (.inr ⟨p, q, vs, us, rfl, rfl, h1, h2, by rw [← r1.length, ← r2.length]; exact hz, fun l hl => Po.lst h hr hl (r1.append r2)⟩))
      · exact h.elim
    · exact h.elim
theorem o_sub : OpR X (binaryOp .Sub) (rI0 fun i j => .int (i - j)) ∧ SOp X.K Cl E (rI0 fun i j => .int (i - j)) mSub := by
  refine ⟨op_sub, fun β H st x y v u Q hr rx ry h => ?_⟩
  unfold mSub at h
  split at h
  · cases rx; cases ry
    exact ⟨_, _, rfl, rfl, PoG.val h hr (.int _)⟩
  · exact h.elim
theorem o_mul : OpR X (binaryOp .Mult) (fun x y H Q => rI CMul (fun i j => .int (i * j)) x y H Q ∨ rI CMulW (fun i j => .int (i * j)) x y H Q ∨ rRep x y H Q) ∧
    SOp X.K Cl E (fun x y H Q => rI CMul (fun i j => .int (i * j)) x y H Q ∨ rI CMulW (fun i j => .int (i * j)) x y H Q ∨ rRep x y H Q) mMul := by
  refine ⟨op_mul.or (op_mulW.or op_rep), fun β H st x y v u Q hr rx ry h => ?_⟩
  unfold mMul at h
  split at h
  · split at h
    · rename_i hz
      cases rx; cases ry
      simp only [mulOk, Bool.or_eq_true, decide_eq_true_eq] at hz
      rcases hz with (hz | hz) | hz
      · exact .inl ⟨_, _, rfl, rfl, .inl (by omega), PoG.val h hr (.int _)⟩
      · exact .inl ⟨_, _, rfl, rfl, .inr (by omega), PoG.val h hr (.int _)⟩
      · exact .inr (.inl ⟨_, _, rfl, rfl, hz, PoG.val h hr (.int _)⟩)
    · exact h.elim
  · split at h
    · split at h
      · rename_i e1 hz
        obtain ⟨p, vs, rfl, h1, r1⟩ := asLM_ok hr rx e1
        cases ry
        exact .inr (.inr ⟨p, _, vs, rfl, rfl, h1, hz.1, hz.2.1, by rw [← r1.length]; exact hz.2.2, fun l hl => Po.lst h hr hl (r1.rep _)⟩)
      · exact h.elim
    · exact h.elim
  · exact h.elim
theorem sop_int {C : Int → Int → Prop} {g : Int → Int → V} {m : M2} {K : PySem.W.Frag} (h : ∀ x y st, (∃ i j o w, x = .int i ∧ y = .int j ∧ C i j ∧ m x y st = .ok w o ∧ o = st ∧ ∀ β H, RV K β H w (g i j)) ∨ m x y st = .stuck) : SOp K Cl E (rI C g) m := fun β H st x y v u Q hr rx ry hp => by
  rcases h x y st with ⟨i, j, o, w, rfl, rfl, hc, e, rfl, rv⟩ | e
  · rw [e] at hp
    cases rx; cases ry
    exact ⟨i, j, rfl, rfl, hc, PoG.val hp hr (rv β H)⟩
  · rw [e] at hp
    exact hp.elim
theorem sop_int0 {g : Int → Int → V} {m : M2} {K : PySem.W.Frag} (h : ∀ x y st, (∃ i j o w, x = .int i ∧ y = .int j ∧ m x y st = .ok w o ∧ o = st ∧ ∀ β H, RV K β H w (g i j)) ∨ m x y st = .stuck) : SOp K Cl E (rI0 g) m := fun β H st x y v u Q hr rx ry hp => by
  rcases h x y st with ⟨i, j, o, w, rfl, rfl, e, rfl, rv⟩ | e
  · rw [e] at hp
    cases rx; cases ry
    exact ⟨i, j, rfl, rfl, PoG.val hp hr (rv β H)⟩
  · rw [e] at hp
    exact hp.elim
theorem o_fdiv : OpR X (binaryOp .FloorDiv) (rI CDivW fun i j => .int (i / j)) ∧ SOp X.K Cl E (rI CDivW fun i j => .int (i / j)) mFdiv := by
  refine ⟨op_fdivW, sop_int fun x y st => ?_⟩
  unfold mFdiv
  split
  · split
    · exact .inl ⟨_, _, _, _, rfl, rfl, by assumption, rfl, rfl, fun _ _ => .int _⟩
    · exact .inr rfl
  · exact .inr rfl
theorem o_mod : OpR X (binaryOp .Mod) (rI (fun _ j => 0 < j) fun i j => .int (i % j)) ∧ SOp X.K Cl E (rI (fun _ j => 0 < j) fun i j => .int (i % j)) mMod := by
  refine ⟨op_mod, sop_int fun x y st => ?_⟩
  unfold mMod
  split
  · split
    · exact .inl ⟨_, _, _, _, rfl, rfl, by assumption, rfl, rfl, fun _ _ => .int _⟩
    · exact .inr rfl
  · exact .inr rfl
theorem o_pow : OpR X (binaryOp .Pow) (rI CPow fun i j => .int (i ^ j.toNat)) ∧ SOp X.K Cl E (rI CPow fun i j => .int (i ^ j.toNat)) mPow := by
  refine ⟨op_pow, sop_int fun x y st => ?_⟩
  unfold mPow
  split
  · split
    · exact .inl ⟨_, _, _, _, rfl, rfl, by assumption, rfl, rfl, fun _ _ => .int _⟩
    · exact .inr rfl
  · exact .inr rfl
theorem o_shl : OpR X (binaryOp .LShift) (rI CPow fun i j => .int (i * 2 ^ j.toNat)) ∧ SOp X.K Cl E (rI CPow fun i j => .int (i * 2 ^ j.toNat)) mShl := by
  refine ⟨op_shl, sop_int fun x y st => ?_⟩
  unfold mShl
  split
  · split
    · exact .inl ⟨_, _, _, _, rfl, rfl, by assumption, rfl, rfl, fun _ _ => .int _⟩
    · exact .inr rfl
  · exact .inr rfl
theorem o_shr : OpR X (binaryOp .RShift) (rI (fun _ j => 0 ≤ j) fun i j => .int (i / 2 ^ j.toNat)) ∧ SOp X.K Cl E (rI (fun _ j => 0 ≤ j) fun i j => .int (i / 2 ^ j.toNat)) mShr := by
  refine ⟨op_shr, sop_int fun x y st => ?_⟩
  unfold mShr
  split
  · split
    · exact .inl ⟨_, _, _, _, rfl, rfl, by assumption, rfl, rfl, fun _ _ => .int _⟩
    · exact .inr rfl
  · exact .inr rfl
theorem o_xor : OpR X (binaryOp .BitXor) (rI0 fun i j => .int (Builtin.bitXor i j)) ∧ SOp X.K Cl E (rI0 fun i j => .int (Builtin.bitXor i j)) mXor := by
  refine ⟨op_xor, sop_int0 fun x y st => ?_⟩
  unfold mXor
  split
  · exact .inl ⟨_, _, _, _, rfl, rfl, rfl, rfl, fun _ _ => .int _⟩
  · exact .inr rfl
theorem o_lt : OpR X (compareOp .Lt) (rI0 fun i j => .bl (decide (i < j))) ∧ SOp X.K Cl E (rI0 fun i j => .bl (decide (i < j))) mLt := by
  refine ⟨op_lt, sop_int0 fun x y st => ?_⟩
  unfold mLt
  split
  · exact .inl ⟨_, _, _, _, rfl, rfl, rfl, rfl, fun _ _ => .bl _⟩
  · exact .inr rfl
theorem o_le : OpR X (compareOp .LtE) (rI0 fun i j => .bl (decide (i ≤ j))) ∧ SOp X.K Cl E (rI0 fun i j => .bl (decide (i ≤ j))) mLe := by
  refine ⟨op_le, sop_int0 fun x y st => ?_⟩
  unfold mLe
  split
  · exact .inl ⟨_, _, _, _, rfl, rfl, rfl, rfl, fun _ _ => .bl _⟩
  · exact .inr rfl
theorem o_gt : OpR X (compareOp .Gt) (rI0 fun i j => .bl (decide (j < i))) ∧ SOp X.K Cl E (rI0 fun i j => .bl (decide (j < i))) mGt := by
  refine ⟨op_gt, sop_int0 fun x y st => ?_⟩
  unfold mGt
  split
  · exact .inl ⟨_, _, _, _, rfl, rfl, rfl, rfl, fun _ _ => .bl _⟩
  · exact .inr rfl
theorem o_ge : OpR X (compareOp .GtE) (rI0 fun i j => .bl (decide (j ≤ i))) ∧ SOp X.K Cl E (rI0 fun i j => .bl (decide (j ≤ i))) mGe := by
  refine ⟨op_ge, sop_int0 fun x y st => ?_⟩
  unfold mGe
  split
  · exact .inl ⟨_, _, _, _, rfl, rfl, rfl, rfl, fun _ _ => .bl _⟩
  · exact .inr rfl
theorem o_eq (hu : X.A.units + 65 < cLine) : OpR X (compareOp .Eq) (rEqD X.K) ∧ SOp X.K Cl E (rEqD X.K) mEq := by
  refine ⟨op_eqD (by omega), fun β H st x y v u Q hr rx ry h => ?_⟩
  unfold mEq at h
  split at h
  · rename_i d e h1 h2
    split at h
    · rename_i hz
      exact ⟨d, e, toPyS_dp hr rx h1, toPyS_dp hr ry h2, hz.1, hz.2, PoG.val h hr (.bl _)⟩
    · exact h.elim
  · exact h.elim
theorem o_ne (hu : X.A.units + 65 < cLine) : OpR X (compareOp .NotEq) (rNeD X.K) ∧ SOp X.K Cl E (rNeD X.K) mNe := by
  refine ⟨op_neD (by omega), fun β H st x y v u Q hr rx ry h => ?_⟩
  unfold mNe at h
  split at h
  · rename_i d e h1 h2
    split at h
    · rename_i hz
      exact ⟨d, e, toPyS_dp hr rx h1, toPyS_dp hr ry h2, hz.1, hz.2, PoG.val h hr (.bl _)⟩
    · exact h.elim
  · exact h.elim
def rInA (K : PySem.W.Frag) : R2 := fun x y H Q => rIn K false x y H Q ∨ (∃ i j, x = .str i ∧ y = .str j ∧ Q (.bl (!(Builtin.Str.occurrences j i 0 j.length 1).isEmpty)) H) ∨ rInD K x y H Q
def rNotInA (K : PySem.W.Frag) : R2 := fun x y H Q => rIn K true x y H Q ∨ (∃ i j, x = .str i ∧ y = .str j ∧ Q (.bl (!(!(Builtin.Str.occurrences j i 0 j.length 1).isEmpty))) H) ∨ rNotInD K x y H Q
theorem isIn_ok {K : PySem.W.Frag} {β : Bt} {H : Hp} {st : Sto} {x y : W} {v u : V} {b : Bool} (hr : HR K Cl β H st) (rx : RV K β H x v) (ry : RV K β H y u) (h : isIn x y st = some b) :
    (∃ p xs, u = .ref p ∧ (SqL K H p xs ∨ SqT K H p xs) ∧ flatV v = true ∧ xs.all flatV = true ∧ inV v xs = b) ∨ (∃ i j, v = .str i ∧ u = .str j ∧ (!(Builtin.Str.occurrences j i 0 j.length 1).isEmpty) = b) ∨
      (∃ d ds, Dp K H v d ∧ Dp K H u (.list ds) ∧ SeqAt.shaped d = true ∧ SeqAt.shaped (.list ds) = true ∧ (ds.any fun z => PyData.eqv z d) = b) := by
  unfold isIn at h
  split at h
  · split at h
    · rename_i hz
      cases h
      cases ry with
      | tup h1 r1 =>
        obtain ⟨e, f⟩ := flat_v rx hz.1
        obtain ⟨e', f'⟩ := flat_vs r1 hz.2
        subst e e'
        exact .inl ⟨_, _, rfl, .inr h1, f, f', rfl⟩
    · cases h
  · cases h
    cases rx; cases ry
    exact .inr (.inl ⟨_, _, rfl, rfl, rfl⟩)
  · split at h
    · rename_i h1 h2
      split at h
      · rename_i hz
        cases h
        exact .inr (.inr ⟨_, _, toPyS_dp hr rx h1, toPyS_dp hr ry h2, hz.1, hz.2, rfl⟩)
      · cases h
    · cases h
theorem o_in (hu : X.A.units + 65 < cLine) : OpR X (compareOp .In) (rInA X.K) ∧ SOp X.K Cl E (rInA X.K) mIn := by
  refine ⟨op_in_seq.or (op_in_str.or (op_inD hu)), fun β H st x y v u Q hr rx ry h => ?_⟩
  unfold mIn at h
  split at h
  · rename_i b e
    rcases isIn_ok hr rx ry e with ⟨p, xs, e1, e2, e3, e4, e5⟩ | ⟨i, j, e1, e2, e3⟩ | ⟨d, ds, e1, e2, e3, e4, e5⟩
    · exact .inl ⟨p, xs, e1, e2, e3, e4, by rw [if_neg Bool.false_ne_true, e5]; exact PoG.val h hr (.bl b)⟩
    · exact .inr (.inl ⟨i, j, e1, e2, by rw [e3]; exact PoG.val h hr (.bl b)⟩)
    · exact .inr (.inr ⟨d, ds, e1, e2, e3, e4, by rw [e5]; exact PoG.val h hr (.bl b)⟩)
  · exact h.elim
theorem o_notIn (hu : X.A.units + 65 < cLine) : OpR X (compareOp .NotIn) (rNotInA X.K) ∧ SOp X.K Cl E (rNotInA X.K) mNotIn := by
  refine ⟨op_notIn_seq.or (op_notin_str.or (op_notInD hu)), fun β H st x y v u Q hr rx ry h => ?_⟩
  unfold mNotIn at h
  split at h
  · rename_i b e
    rcases isIn_ok hr rx ry e with ⟨p, xs, e1, e2, e3, e4, e5⟩ | ⟨i, j, e1, e2, e3⟩ | ⟨d, ds, e1, e2, e3, e4, e5⟩
    · exact .inl ⟨p, xs, e1, e2, e3, e4, by rw [if_pos rfl, e5]; exact PoG.val h hr (.bl _)⟩
    · exact .inr (.inl ⟨i, j, e1, e2, by rw [e3]; exact PoG.val h hr (.bl _)⟩)
    · exact .inr (.inr ⟨d, ds, e1, e2, e3, e4, by rw [e5]; exact PoG.val h hr (.bl _)⟩)
  · exact h.elim
theorem nonW_ok {K : PySem.W.Frag} {β : Bt} {H : Hp} {st : Sto} {x : W} {v : V} {b : Bool} (hr : HR K Cl β H st) (rx : RV K β H x v) (h : nonW x st = some b) : decide (v = .non) = b := by
  cases x with
  | ref i =>
    simp only [nonW] at h
    split at h
    · cases h
    · rename_i ob hd e
      cases h
      obtain ⟨a, rfl, _⟩ := rx.atRef hr e hd
      rfl
    · cases h
  | _ => cases h; cases rx; rfl
theorem o_isN : OpR X (compareOp .Is) (fun x y H Q => y = .non ∧ Q (.bl (decide (x = .non))) H) ∧ SOp X.K Cl E (fun x y H Q => y = .non ∧ Q (.bl (decide (x = .non))) H) mIsN := by
  refine ⟨op_isN, fun β H st x y v u Q hr rx ry h => ?_⟩
  unfold mIsN at h
  split at h
  · rename_i b e
    cases ry
    exact ⟨rfl, by rw [nonW_ok hr rx e]; exact PoG.val h hr (.bl b)⟩
  · exact h.elim
theorem o_notN : OpR X (compareOp .IsNot) (fun x y H Q => y = .non ∧ Q (.bl (!decide (x = .non))) H) ∧ SOp X.K Cl E (fun x y H Q => y = .non ∧ Q (.bl (!decide (x = .non))) H) mNotN := by
  refine ⟨op_notN, fun β H st x y v u Q hr rx ry h => ?_⟩
  unfold mNotN at h
  split at h
  · rename_i b e
    cases ry
    exact ⟨rfl, by rw [nonW_ok hr rx e]; exact PoG.val h hr (.bl _)⟩
  · exact h.elim
theorem o_isB : OpR X (compareOp .Is) rIsB ∧ SOp X.K Cl E rIsB mIsB := by
  refine ⟨op_isBl, fun β H st x y v u Q hr rx ry h => ?_⟩
  unfold mIsB at h
  split at h
  · cases rx; cases ry
    exact ⟨_, _, rfl, rfl, PoG.val h hr (.bl _)⟩
  · exact h.elim
theorem o_notB : OpR X (compareOp .IsNot) rNotB ∧ SOp X.K Cl E rNotB mNotB := by
  refine ⟨op_notBl, fun β H st x y v u Q hr rx ry h => ?_⟩
  unfold mNotB at h
  split at h
  · cases rx; cases ry
    exact ⟨_, _, rfl, rfl, PoG.val h hr (.bl _)⟩
  · exact h.elim
@[simp] def mNeg : W → Sto → Out W := fun x st => match x with
  | .int i => .ok (.int (-i)) st
  | _ => .stuck
theorem u_neg : UnR X (unaryOp .USub) (rU fun i => .int (-i)) ∧ SUn X.K Cl E (rU fun i => .int (-i)) mNeg := by
  refine ⟨un_neg, fun β H st x v Q hr rx h => ?_⟩
  unfold mNeg at h
  split at h
  · cases rx
    exact ⟨_, rfl, PoG.val h hr (.int _)⟩
  · exact h.elim
end
end Mi
/-! The mirror layer, part D: truth, displays, subscripts, fields, built-in calls, dicts. -/
namespace Mi
open PySem L2

/-! ### and, or, not; a if t else b -/
@[simp] def mAndV (a b : ME) : ME := fun s st => (a s st).bind fun x st1 => match truth x st1 with
  | some true => b s st1
  | some false => .ok x st1
  | none => .stuck
@[simp] def mOrV (a b : ME) : ME := fun s st => (a s st).bind fun x st1 => match truth x st1 with
  | some true => .ok x st1
  | some false => b s st1
  | none => .stuck
@[simp] def mNotV (a : ME) : ME := fun s st => (a s st).bind fun x st1 => match truth x st1 with
  | some k => .ok (.bl (!k)) st1
  | none => .stuck
@[simp] def mTAnd (t u : MT) : MT := fun s st => (t s st).bind fun k st1 => if k = true then u s st1 else .ok false st1
@[simp] def mTOr (t u : MT) : MT := fun s st => (t s st).bind fun k st1 => if k = true then .ok true st1 else u s st1
@[simp] def mTNot (t : MT) : MT := fun s st => (t s st).bind fun k st1 => .ok (!k) st1
@[simp] def mIf (t : MT) (a b : ME) : ME := fun s st => (t s st).bind fun k st1 => if k = true then a s st1 else b s st1
section
variable {X : Cx} {Cl : Nat → Addr} {E : XK} {pos : Pos} {ma mb : ME} {ta tb : MT} {a b c : Expr} {rest : List Expr}
theorem je_one {op} (h : JE X Cl E a ma) : JE X Cl E (.BoolOp op [a] pos) ma := by
  obtain ⟨t, p, q⟩ := h.ex
  exact ⟨t, pe_one p, q⟩
theorem je_and (ha : JE X Cl E a ma) (hb : JE X Cl E (.BoolOp .And (b :: rest) pos) mb) : JE X Cl E (.BoolOp .And (a :: b :: rest) pos) (mAndV ma mb) := by
  obtain ⟨t1, p1, q1⟩ := ha.ex
  obtain ⟨t2, p2, q2⟩ := hb.ex
  refine ⟨_, pe_andT p1 p2, fun β H σ s st Q hr hs h => q1 β H σ s st _ hr hs (h.bind fun x st1 β1 H1 v _ e1 hr1 rx h1 => ?_)⟩
  split at h1
  · rename_i e
    refine ⟨true, truth_ok hr1 rx e, ?_⟩
    rw [if_pos rfl]
    exact q2 β1 H1 σ s st1 Q hr1 (hs.ext e1) h1
  · rename_i e
    refine ⟨false, truth_ok hr1 rx e, ?_⟩
    rw [if_neg Bool.false_ne_true]
    exact PoG.val h1 hr1 rx
  · exact h1.elim
theorem je_or (ha : JE X Cl E a ma) (hb : JE X Cl E (.BoolOp .Or (b :: rest) pos) mb) : JE X Cl E (.BoolOp .Or (a :: b :: rest) pos) (mOrV ma mb) := by
  obtain ⟨t1, p1, q1⟩ := ha.ex
  obtain ⟨t2, p2, q2⟩ := hb.ex
  refine ⟨_, pe_orT p1 p2, fun β H σ s st Q hr hs h => q1 β H σ s st _ hr hs (h.bind fun x st1 β1 H1 v _ e1 hr1 rx h1 => ?_)⟩
  split at h1
  · rename_i e
    refine ⟨true, truth_ok hr1 rx e, ?_⟩
    rw [if_pos rfl]
    exact PoG.val h1 hr1 rx
  · rename_i e
    refine ⟨false, truth_ok hr1 rx e, ?_⟩
    rw [if_neg Bool.false_ne_true]
    exact q2 β1 H1 σ s st1 Q hr1 (hs.ext e1) h1
  · exact h1.elim
theorem je_not (ha : JE X Cl E a ma) : JE X Cl E (.UnaryOp .Not a pos) (mNotV ma) := by
  obtain ⟨t1, p1, q1⟩ := ha.ex
  refine ⟨_, pe_notT p1, fun β H σ s st Q hr hs h => q1 β H σ s st _ hr hs (h.bind fun x st1 β1 H1 v _ e1 hr1 rx h1 => ?_)⟩
  split at h1
  · rename_i k e
    exact ⟨k, truth_ok hr1 rx e, PoG.val h1 hr1 (.bl _)⟩
  · exact h1.elim
theorem jt_w (h : JW X Cl E a ta) : JT X Cl E a ta := by
  obtain ⟨t, p, q⟩ := h.ex
  exact ⟨t, p.pt, q⟩
theorem jw_and1 (h : JT X Cl E a ta) : JW X Cl E (.BoolOp .And [a] pos) ta := by
  obtain ⟨t, p, q⟩ := h.ex
  exact ⟨t, pw_and1 p, q⟩
theorem jw_or1 (h : JT X Cl E a ta) : JW X Cl E (.BoolOp .Or [a] pos) ta := by
  obtain ⟨t, p, q⟩ := h.ex
  exact ⟨t, pw_or1 p, q⟩
theorem jw_and (ha : JT X Cl E a ta) (hb : JW X Cl E (.BoolOp .And (b :: rest) pos) tb) : JW X Cl E (.BoolOp .And (a :: b :: rest) pos) (mTAnd ta tb) := by
  obtain ⟨t1, p1, q1⟩ := ha.ex
  obtain ⟨t2, p2, q2⟩ := hb.ex
  refine ⟨_, pw_and p1 p2, fun β H σ s st Q hr hs h => q1 β H σ s st _ hr hs (h.bind fun x st1 β1 H1 v _ e1 hr1 rx h1 => ?_)⟩
  cases rx
  cases x with
  | true => rw [if_pos rfl] at h1 ⊢; exact q2 β1 H1 σ s st1 Q hr1 (hs.ext e1) h1
  | false => rw [if_neg Bool.false_ne_true] at h1 ⊢; exact PoG.val h1 hr1 rfl
theorem jw_or (ha : JT X Cl E a ta) (hb : JW X Cl E (.BoolOp .Or (b :: rest) pos) tb) : JW X Cl E (.BoolOp .Or (a :: b :: rest) pos) (mTOr ta tb) := by
  obtain ⟨t1, p1, q1⟩ := ha.ex
  obtain ⟨t2, p2, q2⟩ := hb.ex
  refine ⟨_, pw_or p1 p2, fun β H σ s st Q hr hs h => q1 β H σ s st _ hr hs (h.bind fun x st1 β1 H1 v _ e1 hr1 rx h1 => ?_)⟩
  cases rx
  cases x with
  | true => rw [if_pos rfl] at h1 ⊢; exact PoG.val h1 hr1 rfl
  | false => rw [if_neg Bool.false_ne_true] at h1 ⊢; exact q2 β1 H1 σ s st1 Q hr1 (hs.ext e1) h1
theorem jt_not (ha : JT X Cl E a ta) : JT X Cl E (.UnaryOp .Not a pos) (mTNot ta) := by
  obtain ⟨t1, p1, q1⟩ := ha.ex
  refine ⟨_, pt_not p1, fun β H σ s st Q hr hs h => q1 β H σ s st _ hr hs (h.bind fun x st1 β1 H1 v _ e1 hr1 rx h1 => ?_)⟩
  cases rx
  exact PoG.val h1 hr1 rfl
theorem je_if (hc : JT X Cl E c ta) (ha : JE X Cl E a ma) (hb : JE X Cl E b mb) : JE X Cl E (.IfExp c a b pos) (mIf ta ma mb) := by
  obtain ⟨t1, p1, q1⟩ := hc.ex
  obtain ⟨t2, p2, q2⟩ := ha.ex
  obtain ⟨t3, p3, q3⟩ := hb.ex
  refine ⟨_, pe_ifExp p1 p2 p3, fun β H σ s st Q hr hs h => q1 β H σ s st _ hr hs (h.bind fun x st1 β1 H1 v _ e1 hr1 rx h1 => ?_)⟩
  cases rx
  cases x with
  | true => rw [if_pos rfl] at h1 ⊢; exact q2 β1 H1 σ s st1 Q hr1 (hs.ext e1) h1
  | false => rw [if_neg Bool.false_ne_true] at h1 ⊢; exact q3 β1 H1 σ s st1 Q hr1 (hs.ext e1) h1
end

/-! ### argument lists, displays -/
@[simp] def mNil : MA := fun _ st => .ok [] st
@[simp] def mCons (a : ME) (r : MA) : MA := fun s st => (a s st).bind fun x st1 => (r s st1).bind fun xs st2 => .ok (x :: xs) st2
@[simp] def mTup (a : MA) : ME := fun s st => (a s st).bind fun xs st1 => if xs.length ≤ sizeLine then .ok (.tup xs) st1 else .stuck
@[simp] def mLst (a : MA) : ME := fun s st => (a s st).bind fun xs st1 => if xs.length ≤ sizeLine then .ok (.lst xs) st1 else .stuck
/-- a list that will be changed -/
@[simp] def mLstS (a : MA) : ME := fun s st => (a s st).bind fun xs st1 => if xs.length ≤ sizeLine then .ok (.ref st1.length) (st1 ++ [.lst xs]) else .stuck
section
variable {X : Cx} {Cl : Nat → Addr} {E : XK} {pos : Pos} {ma : ME} {mr : MA} {e : Expr} {es : List Expr}
theorem ja_nil : JA X Cl E [] mNil := ⟨_, pa_nil, fun β H σ s st Q hr hs h => PoG.val h hr .nil⟩
theorem ja_cons (ha : JE X Cl E e ma) (hr : JA X Cl E es mr) (hs : starEach (e :: es) X.env = (false, eval e X.env) :: starEach es X.env := by rfl) : JA X Cl E (e :: es) (mCons ma mr) := by
  obtain ⟨t1, p1, q1⟩ := ha.ex
  obtain ⟨t2, p2, q2⟩ := hr.ex
  refine ⟨_, pa_cons p1 p2 hs, fun β H σ s st Q hr hs h => q1 β H σ s st _ hr hs (h.bind fun x st1 β1 H1 v _ e1 hr1 rx h1 => q2 β1 H1 σ s st1 _ hr1 (hs.ext e1) (h1.bind fun y st2 β2 H2 u _ e2 hr2 ry h2 => ?_))⟩
  exact PoG.val h2 hr2 (.cons (rx.ext e2) ry)
theorem je_tup {k} (h : JA X Cl E es mr) : JE X Cl E (.Tuple es k pos) (mTup mr) := by
  obtain ⟨t, p, q⟩ := h.ex
  refine ⟨_, pe_tup p, fun β H σ s st Q hr hs h => q β H σ s st _ hr hs (h.bind fun x st1 β1 H1 v _ e1 hr1 rx h1 => ?_)⟩
  split at h1
  · rename_i hz
    exact ⟨by rw [← rx.length]; exact hz, fun l hl => Po.tup h1 hr1 hl rx⟩
  · exact h1.elim
theorem je_lst (h : JA X Cl E es mr) : JE X Cl E (.List es pos) (mLst mr) := by
  obtain ⟨t, p, q⟩ := h.ex
  refine ⟨_, pe_lst p, fun β H σ s st Q hr hs h => q β H σ s st _ hr hs (h.bind fun x st1 β1 H1 v _ e1 hr1 rx h1 => ?_)⟩
  split at h1
  · rename_i hz
    exact ⟨by rw [← rx.length]; exact hz, fun l hl => Po.lst h1 hr1 hl rx⟩
  · exact h1.elim
theorem Po.lstS {K : PySem.W.Frag} {β : Bt} {H : Hp} {p : Addr} {ws : List W} {vs : List V} {st : Sto} {Q : VK} (h : Po K Cl E β H Q (.ok (.ref st.length) (st ++ [.lst ws]))) (hr : HR K Cl β H st) (hp : H p = none) (r : RVs K β H ws vs) : Q (.ref p) (upd H p (.lst vs)) :=
  h _ _ _ (Ext.push hp) (hr.push hp ⟨vs, upd_same, r.ext (Ext.push hp)⟩) (.ref (by rw [← hr.len]; exact push_last))
theorem je_lstS (h : JA X Cl E es mr) : JE X Cl E (.List es pos) (mLstS mr) := by
  obtain ⟨t, p, q⟩ := h.ex
  refine ⟨_, pe_lst p, fun β H σ s st Q hr hs h => q β H σ s st _ hr hs (h.bind fun x st1 β1 H1 v _ e1 hr1 rx h1 => ?_)⟩
  split at h1
  · rename_i hz
    exact ⟨by rw [← rx.length]; exact hz, fun l hl => Po.lstS h1 hr1 hl rx⟩
  · exact h1.elim
end
/-- a value list becomes an object of the store (it is new: nobody else holds it) -/
@[simp] def mThaw (a : ME) : ME := fun s st => (a s st).bind fun x st1 => match x with
  | .lst ws => .ok (.ref st1.length) (st1 ++ [.lst ws])
  | _ => .stuck
/-- the list of an object of the store becomes a value -/
@[simp] def mFrz (a : ME) : ME := fun s st => (a s st).bind fun x st1 => match x with
  | .ref i => match st1[i]? with
    | some (.lst ws) => .ok (.lst ws) (st1.set i .dead)
    | _ => .stuck
  | _ => .stuck
section
variable {X : Cx} {Cl : Nat → Addr} {E : XK} {ma : ME} {e : Expr}
theorem je_frz (h : JE X Cl E e ma) : JE X Cl E e (mFrz ma) := by
  obtain ⟨t, p, q⟩ := h.ex
  refine ⟨_, p, fun β H σ s st Q hr hs h => q β H σ s st _ hr hs (h.bind fun x st1 β1 H1 v _ e1 hr1 rx h1 => ?_)⟩
  cases x with
  | ref i =>
    simp only at h1
    split at h1
    · rename_i ws e
      obtain ⟨a, rfl, hb, vs, hv, hrs⟩ := rx.atRef hr1 e (by intro z; cases z)
      refine h1 _ _ _ Ext.letgo (hr1.letgo hb) (.lst hv ⟨fun j hj => ?_, fun z => (hr1.prot _ z).2 i hb⟩ (hrs.ext Ext.letgo))
      rcases let_at hj with ⟨_, z⟩ | ⟨ne, z⟩
      · cases z
      · exact ne (hr1.inj j i a z hb)
    · exact h1.elim
  | _ => exact h1.elim
end

/-! ### subscripts, slices -/
theorem atI_map {α γ : Type} {xs : List α} {ys : List γ} (h : xs.length = ys.length) {i : Int} {v : α} (e : atI xs i = some v) : ∃ j : Nat, xs[j]? = some v ∧ ∀ u : γ, ys[j]? = some u → atI ys i = some u := by
  unfold atI at e ⊢
  rw [← h]
  cases hx : ixN xs.length i with
  | none => rw [hx] at e; cases e
  | some j =>
    rw [hx] at e
    exact ⟨j, e, fun u hu => hu⟩
@[simp] def mIx : M2 := fun x y st => match y with
  | .int i => match x with
    | .tup ws => match atI ws i with
      | some w => .ok w st
      | none => .stuck
    | .str z => if z.length ≤ sizeLine then match atI z.cps.toList i with
        | some c => .ok (.str ⟨#[c]⟩) st
        | none => .stuck
      else .stuck
    | x => match asL x st with
      | some ws => match atI ws i with
        | some w => .ok w st
        | none => .stuck
      | none => .stuck
  | _ => .stuck
def cutW (xs : List W) (lo hi : Option Int) : List W := (xs.drop (HT.sIx xs.length 0 lo)).take (HT.sIx xs.length xs.length hi - HT.sIx xs.length 0 lo)
abbrev MO := Slo → Sto → Out (Option Int)
@[simp] def mNoPart : MO := fun _ st => .ok none st
@[simp] def mPart (a : ME) : MO := fun s st => (a s st).bind fun x st1 => match x with
  | .int i => .ok (some i) st1
  | _ => .stuck
@[simp] def cutOf (x : W) (lo hi : Option Int) (st : Sto) : Out W := match x with
  | .tup ws => .ok (.tup (cutW ws lo hi)) st
  | .str z => if z.length ≤ sizeLine then .ok (.str (cutS z lo hi)) st else .stuck
  | x => match asL x st with
    | some ws => .ok (.lst (cutW ws lo hi)) st
    | none => .stuck
@[simp] def mSl (a : ME) (lo hi : MO) : ME := fun s st => (a s st).bind fun x st1 => (lo s st1).bind fun l st2 => (hi s st2).bind fun u st3 => cutOf x l u st3
structure JO (X : Cx) (Cl : Nat → Addr) (E : XK) (e : Option Expr) (m : MO) : Prop where
  ex : ∃ t, PO X e t ∧ ∀ β H σ s st Q, HR X.K Cl β H st → SR X.K β H s σ → PoG X.K Cl (fun _ _ (a b : Option Int) => a = b) E β H Q (m s st) → t σ H Q
section
variable {X : Cx} {Cl : Nat → Addr} {E : XK} {pos p2 : Pos} {ma mb : ME} {a b e : Expr} {ml mh : MO} {lo hi : Option Expr}
theorem je_ix (ha : JE X Cl E a ma) (hb : JE X Cl E b mb) (hs : PlainIx b := by exact fun _ _ => rfl) : JE X Cl E (.Subscript a b pos) (mOp mIx ma mb) := by
  obtain ⟨_, p1, q1⟩ := ha.ex
  obtain ⟨_, p2, q2⟩ := hb.ex
  refine ⟨_, pe_ix ix_seq p1 p2 hs, se_op (fun β H st x y v u Q hr rx ry h => ?_) q1 q2⟩
  unfold mIx at h
  split at h
  · cases ry
    split at h
    · split at h
      · rename_i w e
        cases rx with
        | tup h1 r1 =>
          obtain ⟨j, hj, k⟩ := atI_map r1.length e
          obtain ⟨v, hv, rv⟩ := r1.get hj
          exact .inr (.inl ⟨_, _, _, v, rfl, rfl, h1, k v hv, PoG.val h hr rv⟩)
      · exact h.elim
    · split at h
      · rename_i hz
        split at h
        · rename_i c e
          cases rx
          exact .inr (.inr ⟨_, _, c, rfl, rfl, hz, e, PoG.val h hr (.str _)⟩)
        · exact h.elim
      · exact h.elim
    · split at h
      · rename_i ws el
        split at h
        · rename_i w e
          obtain ⟨p, vs, rfl, h1, r1⟩ := asL_ok hr rx el
          obtain ⟨j, hj, k⟩ := atI_map r1.length e
          obtain ⟨v, hv, rv⟩ := r1.get hj
          exact .inl ⟨p, vs, _, v, rfl, rfl, h1, k v hv, PoG.val h hr rv⟩
        · exact h.elim
      · exact h.elim
  · exact h.elim
theorem jo_none : JO X Cl E none mNoPart := ⟨_, po_none, fun β H σ s st Q hr hs h => PoG.val h hr rfl⟩
theorem jo_some (h : JE X Cl E e ma) : JO X Cl E (some e) (mPart ma) := by
  obtain ⟨t, p, q⟩ := h.ex
  refine ⟨_, po_some p, fun β H σ s st Q hr hs h => q β H σ s st _ hr hs (h.bind fun x st1 β1 H1 v _ e1 hr1 rx h1 => ?_)⟩
  cases x with
  | int i => cases rx; exact ⟨i, rfl, PoG.val h1 hr1 rfl⟩
  | _ => exact h1.elim
theorem RVs.cut {K : PySem.W.Frag} {β : Bt} {H : Hp} {ws : List W} {vs : List V} (r : RVs K β H ws vs) (lo hi : Option Int) : RVs K β H (cutW ws lo hi) (cutV vs lo hi) := by
  unfold cutW cutV
  rw [r.length]
  exact (r.drop _).take _
theorem je_sl (ha : JE X Cl E a ma) (hl : JO X Cl E lo ml) (hh : JO X Cl E hi mh) : JE X Cl E (.Subscript a (.Slice lo hi none p2) pos) (mSl ma ml mh) := by
  obtain ⟨_, p1, q1⟩ := ha.ex
  obtain ⟨_, pl, ql⟩ := hl.ex
  obtain ⟨_, ph, qh⟩ := hh.ex
  refine ⟨_, pe_slice (sl_list.or (sl_tupA.or sl_str)) p1 pl ph, fun β H σ s st Q hr hs h => q1 β H σ s st _ hr hs (h.bind fun x st1 β1 H1 v _ e1 hr1 rx1 h1 => ql β1 H1 σ s st1 _ hr1 (hs.ext e1) (h1.bind fun l st2 β2 H2 l' _ e2 hr2 rl h2 =>
    qh β2 H2 σ s st2 _ hr2 ((hs.ext e1).ext e2) (h2.bind fun u st3 β3 H3 u' _ e3 hr3 ru h3 => ?_)))⟩
  cases rl
  cases ru
  have rx := rx1.ext (e2.trans e3)
  unfold cutOf at h3
  split at h3
  · cases rx with
    | @tup p ws vs h1 r1 =>
      refine .inr (.inl ⟨p, vs, rfl, h1, fun ew => ?_, fun _ l hl => Po.tup h3 hr3 hl (r1.cut _ _)⟩)
      refine PoG.val h3 hr3 (.tup h1 ?_)
      have ec : ∀ us : List W, us.length = vs.length → cutW us l u = us := fun us q => by
        unfold cutW
        rw [q, ew.1, ew.2, List.drop_zero, Nat.sub_zero, ← q, List.take_length]
      rw [ec _ r1.length]
      exact r1
  · split at h3
    · rename_i hz
      cases rx
      exact .inr (.inr ⟨_, rfl, hz, PoG.val h3 hr3 (.str _)⟩)
    · exact h3.elim
  · split at h3
    · rename_i ws el
      obtain ⟨p, vs, rfl, h1, r1⟩ := asL_ok hr3 rx el
      exact .inl ⟨p, vs, rfl, h1, fun l hl => Po.lst h3 hr3 hl (r1.cut _ _)⟩
    · exact h3.elim
end

/-! ### fields -/
@[simp] def mFld (c : Nat) (f : Str) (a : ME) : ME := fun s st => (a s st).bind fun x st1 => match x with
  | .ref i => match st1[i]? with
    | some (.ins d fs) => if d = c then match fs.lookup f with
        | some w => .ok w st1
        | none => .stuck
      else .stuck
    | _ => .stuck
  | _ => .stuck
section
variable {X : Cx} {Cl : Nat → Addr} {E : XK} {pos : Pos} {ma : ME} {e : Expr}
theorem je_fld {c : Nat} {f : Str} (hc : Cls X.K (Cl c)) (hn : NoAttr X.K (Cl c) f) (ha : JE X Cl E e ma) (hb : attributeBase e f X.env (eval e X.env) = eval e X.env := by rfl) : JE X Cl E (.Attribute e f pos) (mFld c f ma) := by
  obtain ⟨t, p, q⟩ := ha.ex
  refine ⟨_, pe_fld p hb, fun β H σ s st Q hr hs h => q β H σ s st _ hr hs (h.bind fun x st1 β1 H1 v _ e1 hr1 rx h1 => ?_)⟩
  cases x with
  | ref i =>
    simp only at h1
    split at h1
    · rename_i d fs es
      split at h1
      · rename_i ed
        subst ed
        split at h1
        · rename_i w el
          obtain ⟨a, rfl, hb, dx, gs, hv, hrs⟩ := rx.atRef hr1 es (by intro z; cases z)
          obtain ⟨v, hl, rv⟩ := hrs.look el
          exact ⟨a, _, dx, gs, v, rfl, hv, hc, hn, hl, PoG.val h1 hr1 rv⟩
        · exact h1.elim
      · exact h1.elim
    · exact h1.elim
  | _ => exact h1.elim
end

/-! ### built-in calls -/
@[simp] def mCB (r : List W → Sto → Out W) (a : MA) : ME := fun s st => (a s st).bind fun xs st1 => r xs st1
def SCal (K : PySem.W.Frag) (Cl : Nat → Addr) (E : XK) (r : List V → Hp → VK → Prop) (m : List W → Sto → Out W) : Prop :=
  ∀ β H st xs vs Q, HR K Cl β H st → RVs K β H xs vs → Po K Cl E β H Q (m xs st) → r vs H Q
section
variable {X : Cx} {Cl : Nat → Addr} {E : XK} {pos p : Pos} {mr : MA} {e : Expr} {es : List Expr}
theorem je_callB {x : Str} {id : String} {r : List V → Hp → VK → Prop} {m : List W → Sto → Out W} (hc : CallR X (.builtin id) r ∧ SCal X.K Cl E r m) (hm : X.mg x = none) (hv : bootBuiltins x = some (.builtin id)) (ha : JA X Cl E (e :: es) mr) (hg : Gl X x := by rfl) (hn : x ≠ "__name__" := by decide) (hdb : (x == ("__debug__" : Str)) = false := by decide)
    (he : starEach (e :: es) X.env = (false, eval e X.env) :: starEach es X.env := by rfl) (hpl : (backTo pos (starEach es X.env)).any (·.1) = false := by rfl) : JE X Cl E (.Call (.Name x p) (e :: es) [] pos) (mCB m mr) := by
  obtain ⟨t, pr, q⟩ := ha.ex
  exact ⟨_, pe_callB hc.1 hg hm hv pr hn hdb he hpl, fun β H σ s st Q hr hs h => q β H σ s st _ hr hs (h.bind fun x st1 β1 H1 v _ e1 hr1 rx h1 => hc.2 β1 H1 st1 x v Q hr1 rx h1)⟩
theorem je_callTy {x : Str} {T : String} {r : List V → Hp → VK → Prop} {m : List W → Sto → Out W} (hc : CallR X (.type T) r ∧ SCal X.K Cl E r m) (hm : X.mg x = none) (hv : bootBuiltins x = some (.type T)) (ha : JA X Cl E (e :: es) mr) (hg : Gl X x := by rfl) (hn : x ≠ "__name__" := by decide) (hdb : (x == ("__debug__" : Str)) = false := by decide)
    (he : starEach (e :: es) X.env = (false, eval e X.env) :: starEach es X.env := by rfl) (hpl : (backTo pos (starEach es X.env)).any (·.1) = false := by rfl) : JE X Cl E (.Call (.Name x p) (e :: es) [] pos) (mCB m mr) := by
  obtain ⟨t, pr, q⟩ := ha.ex
  exact ⟨_, pe_callTy hc.1 hg hm hv pr hn hdb he hpl, fun β H σ s st Q hr hs h => q β H σ s st _ hr hs (h.bind fun x st1 β1 H1 v _ e1 hr1 rx h1 => hc.2 β1 H1 st1 x v Q hr1 rx h1)⟩
@[simp] def mLen : List W → Sto → Out W := fun xs st => match xs with
  | [.tup ws] => .ok (.int (ws.length : Nat)) st
  | [.str z] => if z.length ≤ sizeLine then .ok (.int (z.length : Nat)) st else .stuck
  | [x] => match asL x st with
    | some ws => .ok (.int (ws.length : Nat)) st
    | none => .stuck
  | _ => .stuck
@[simp] def mAbs : List W → Sto → Out W := fun xs st => match xs with
  | [.int i] => .ok (.int (if i < 0 then -i else i)) st
  | _ => .stuck
@[simp] def mMax2 : List W → Sto → Out W := fun xs st => match xs with
  | [.int i, .int j] => .ok (.int (max i j)) st
  | _ => .stuck
@[simp] def mMin2 : List W → Sto → Out W := fun xs st => match xs with
  | [.int i, .int j] => .ok (.int (min i j)) st
  | _ => .stuck
@[simp] def mInt : List W → Sto → Out W := fun xs st => match xs with
  | [.int i] => .ok (.int i) st
  | [.bl k] => .ok (.int (if k then 1 else 0)) st
  | _ => .stuck
@[simp] def mListOf : List W → Sto → Out W := fun xs st => match xs with
  | [.tup ws] => .ok (.lst ws) st
  | [x] => match asL x st with
    | some ws => .ok (.lst ws) st
    | none => .stuck
  | _ => .stuck
@[simp] def mTupleOf : List W → Sto → Out W := fun xs st => match xs with
  | [.tup ws] => .ok (.tup ws) st
  | [x] => match asL x st with
    | some ws => .ok (.tup ws) st
    | none => .stuck
  | _ => .stuck
theorem RVs.one {K : PySem.W.Frag} {β : Bt} {H : Hp} {w : W} {vs : List V} (r : RVs K β H [w] vs) : ∃ v, vs = [v] ∧ RV K β H w v := by
  cases r with
  | cons h t => cases t; exact ⟨_, rfl, h⟩
theorem RVs.two {K : PySem.W.Frag} {β : Bt} {H : Hp} {w u : W} {vs : List V} (r : RVs K β H [w, u] vs) : ∃ v x, vs = [v, x] ∧ RV K β H w v ∧ RV K β H u x := by
  cases r with
  | cons h t =>
    obtain ⟨x, rfl, h2⟩ := RVs.one t
    exact ⟨_, _, rfl, h, h2⟩
theorem c_len : CallR X (.builtin "len") (fun xs H Q => ∃ x n, xs = [x] ∧ LenV X.K x H n ∧ Q (.int n) H) ∧ SCal X.K Cl E (fun xs H Q => ∃ x n, xs = [x] ∧ LenV X.K x H n ∧ Q (.int n) H) mLen := by
  refine ⟨call_len, fun β H st xs vs Q hr r h => ?_⟩
  unfold mLen at h
  split at h
  · obtain ⟨v, rfl, rv⟩ := r.one
    cases rv with
    | tup h1 r1 => exact ⟨_, _, rfl, .inr ⟨_, h1, r1.length⟩, PoG.val h hr (.int _)⟩
  · split at h
    · obtain ⟨v, rfl, rv⟩ := r.one
      cases rv
      exact ⟨_, _, rfl, ⟨by assumption, rfl⟩, PoG.val h hr (.int _)⟩
    · exact h.elim
  · split at h
    · rename_i ws el
      obtain ⟨v, rfl, rv⟩ := r.one
      obtain ⟨p, vs, rfl, h1, r1⟩ := asL_ok hr rv el
      exact ⟨_, _, rfl, .inl ⟨_, h1, r1.length⟩, PoG.val h hr (.int _)⟩
    · exact h.elim
  · exact h.elim
theorem c_abs : CallR X (.builtin "abs") (fun xs H Q => ∃ i, xs = [.int i] ∧ Q (.int (if i < 0 then -i else i)) H) ∧ SCal X.K Cl E (fun xs H Q => ∃ i, xs = [.int i] ∧ Q (.int (if i < 0 then -i else i)) H) mAbs := by
  refine ⟨call_abs, fun β H st xs vs Q hr r h => ?_⟩
  unfold mAbs at h
  split at h
  · obtain ⟨v, rfl, rv⟩ := r.one
    cases rv
    exact ⟨_, rfl, PoG.val h hr (.int _)⟩
  · exact h.elim
theorem c_max2 (hc : X.calm = true) : CallR X (.builtin "max") (fun xs H Q => ∃ i j, xs = [.int i, .int j] ∧ Q (.int (if j > i then j else i)) H) ∧ SCal X.K Cl E (fun xs H Q => ∃ i j, xs = [.int i, .int j] ∧ Q (.int (if j > i then j else i)) H) mMax2 := by
  refine ⟨call_max2 hc, fun β H st xs vs Q hr r h => ?_⟩
  unfold mMax2 at h
  split at h
  · rename_i i j
    obtain ⟨v, u, rfl, rv, ru⟩ := r.two
    cases rv; cases ru
    have e : (if j > i then j else i) = max i j := by split <;> omega
    exact ⟨_, _, rfl, by rw [e]; exact PoG.val h hr (.int _)⟩
  · exact h.elim
theorem c_min2 (hc : X.calm = true) : CallR X (.builtin "min") (fun xs H Q => ∃ i j, xs = [.int i, .int j] ∧ Q (.int (if j < i then j else i)) H) ∧ SCal X.K Cl E (fun xs H Q => ∃ i j, xs = [.int i, .int j] ∧ Q (.int (if j < i then j else i)) H) mMin2 := by
  refine ⟨call_min2 hc, fun β H st xs vs Q hr r h => ?_⟩
  unfold mMin2 at h
  split at h
  · rename_i i j
    obtain ⟨v, u, rfl, rv, ru⟩ := r.two
    cases rv; cases ru
    have e : (if j < i then j else i) = min i j := by split <;> omega
    exact ⟨_, _, rfl, by rw [e]; exact PoG.val h hr (.int _)⟩
  · exact h.elim
theorem c_int : CallR X (.type "int") (fun xs H Q => (∃ i, xs = [.int i] ∧ Q (.int i) H) ∨ ∃ k, xs = [.bl k] ∧ Q (.int (if k then 1 else 0)) H) ∧ SCal X.K Cl E (fun xs H Q => (∃ i, xs = [.int i] ∧ Q (.int i) H) ∨ ∃ k, xs = [.bl k] ∧ Q (.int (if k then 1 else 0)) H) mInt := by
  refine ⟨call_int1, fun β H st xs vs Q hr r h => ?_⟩
  unfold mInt at h
  split at h
  · obtain ⟨v, rfl, rv⟩ := r.one
    cases rv
    exact .inl ⟨_, rfl, PoG.val h hr (.int _)⟩
  · obtain ⟨v, rfl, rv⟩ := r.one
    cases rv
    exact .inr ⟨_, rfl, PoG.val h hr (.int _)⟩
  · exact h.elim
theorem c_list : CallR X (.type "list") (fun xs H Q => ∃ p ys, xs = [.ref p] ∧ (SqL X.K H p ys ∨ SqT X.K H p ys) ∧ ∀ l, H l = none → Q (.ref l) (upd H l (.lst ys))) ∧
    SCal X.K Cl E (fun xs H Q => ∃ p ys, xs = [.ref p] ∧ (SqL X.K H p ys ∨ SqT X.K H p ys) ∧ ∀ l, H l = none → Q (.ref l) (upd H l (.lst ys))) mListOf := by
  refine ⟨call_list_of, fun β H st xs vs Q hr r h => ?_⟩
  unfold mListOf at h
  split at h
  · obtain ⟨v, rfl, rv⟩ := r.one
    cases rv with
    | tup h1 r1 => exact ⟨_, _, rfl, .inr h1, fun l hl => Po.lst h hr hl r1⟩
  · split at h
    · rename_i ws el
      obtain ⟨v, rfl, rv⟩ := r.one
      obtain ⟨p, vs, rfl, h1, r1⟩ := asL_ok hr rv el
      exact ⟨_, _, rfl, .inl h1, fun l hl => Po.lst h hr hl r1⟩
    · exact h.elim
  · exact h.elim
theorem c_tuple : CallR X (.type "tuple") (fun xs H Q => ∃ p ys, xs = [.ref p] ∧ ((SqL X.K H p ys ∧ ∀ l, H l = none → Q (.ref l) (upd H l (.tup ys))) ∨ (SqT X.K H p ys ∧ Q (.ref p) H))) ∧
    SCal X.K Cl E (fun xs H Q => ∃ p ys, xs = [.ref p] ∧ ((SqL X.K H p ys ∧ ∀ l, H l = none → Q (.ref l) (upd H l (.tup ys))) ∨ (SqT X.K H p ys ∧ Q (.ref p) H))) mTupleOf := by
  refine ⟨call_tuple_of, fun β H st xs vs Q hr r h => ?_⟩
  unfold mTupleOf at h
  split at h
  · obtain ⟨v, rfl, rv⟩ := r.one
    cases rv with
    | tup h1 r1 => exact ⟨_, _, rfl, .inr ⟨h1, PoG.val h hr (.tup h1 r1)⟩⟩
  · split at h
    · rename_i ws el
      obtain ⟨v, rfl, rv⟩ := r.one
      obtain ⟨p, vs, rfl, h1, r1⟩ := asL_ok hr rv el
      exact ⟨_, _, rfl, .inl ⟨h1, fun l hl => Po.tup h hr hl r1⟩⟩
    · exact h.elim
  · exact h.elim

/-! ### isinstance of a built-in class -/
@[simp] def tyOf (w : W) (st : Sto) : Option String := match w with
  | .non => some "NoneType" | .bl _ => some "bool" | .int _ => some "int" | .str _ => some "str" | .tup _ => some "tuple" | .lst _ => some "list" | .xst _ => some "list"
  | .ref i => match st[i]? with
    | some (.lst _) => some "list"
    | some (.dK _) => some "dict"
    | some (.dT _) => some "dict"
    | _ => none
@[simp] def mIsi (T : String) (a : ME) : ME := fun s st => (a s st).bind fun x st1 => match tyOf x st1 with
  | some t => match kitB t T with
    | some b => .ok (.bl b) st1
    | none => .stuck
  | none => .stuck
theorem tyOf_ok {K : PySem.W.Frag} {β : Bt} {H : Hp} {st : Sto} {x : W} {v : V} {t : String} (hr : HR K Cl β H st) (rx : RV K β H x v) (h : tyOf x st = some t) : TyX K H v (.type t) := by
  cases x with
  | non => cases h; cases rx; exact .base .non
  | bl b => cases h; cases rx; exact .base (.bl _)
  | int i => cases h; cases rx; exact .base (.int _)
  | str i => cases h; cases rx; exact .base (.str _)
  | tup ws =>
    cases h
    cases rx with
    | tup h1 r1 =>
      rcases h1 with (h1 | ⟨o, h1⟩) | ⟨o, its, n, hk, hc, _⟩
      · exact .base (.tup h1)
      · exact .fTuple h1
      · exact .kTuple hk hc
  | lst ws => cases h; cases rx with | lst h1 _ r1 => exact .base (.lst h1)
  | xst ws =>
    cases h
    cases rx with
    | xst h1 r1 =>
      rcases h1 with ⟨o, its, n, hk, hc, _⟩ | ⟨o, h1⟩
      · exact .kList hk hc
      · exact .base (.frz h1)
  | ref i =>
    simp only [tyOf] at h
    split at h
    · rename_i e
      cases h
      obtain ⟨a, rfl, _, vs, h1, _⟩ := rx.atRef hr e (by intro z; cases z)
      exact .base (.lst h1)
    · rename_i e
      cases h
      obtain ⟨a, rfl, _, vs, h1, _⟩ := rx.atRef hr e (by intro z; cases z)
      exact .base (.dK h1)
    · rename_i e
      cases h
      obtain ⟨a, rfl, _, vs, h1, _⟩ := rx.atRef hr e (by intro z; cases z)
      exact .base (.dT h1)
    · cases h
theorem je_isi {ma : ME} {x : Str} {T : String} {p2 : Pos} (hm : X.mg "isinstance" = none) (hmx : X.mg x = none) (hv : bootBuiltins x = some (.type T)) (ha : JE X Cl E e ma) (hgx : Gl X x := by rfl) (hnx : x ≠ "__name__" := by decide) (hdx : (x == ("__debug__" : Str)) = false := by decide)
    (hg : Gl X "isinstance" := by rfl)
    (he : starEach [e, .Name x p2] X.env = (false, eval e X.env) :: starEach [.Name x p2] X.env := by rfl) (hpl : (backTo pos (starEach [.Name x p2] X.env)).any (·.1) = false := by rfl) : JE X Cl E (.Call (.Name "isinstance" p) [e, .Name x p2] [] pos) (mIsi T ma) := by
  obtain ⟨t, pr, q⟩ := ha.ex
  refine ⟨_, pe_callB call_isi hg hm PyProof.Rows.boot_isinstance (pa_cons (hs := he) pr (pa_cons (pe_bltn (v := .ty T) hgx hmx hv rfl hnx hdx) pa_nil)) (he := he) (hpl := hpl), fun β H σ s st Q hr hs h => q β H σ s st _ hr hs (h.bind fun y st1 β1 H1 v _ e1 hr1 rx h1 => ?_)⟩
  split at h1
  · rename_i t et
    split at h1
    · rename_i b eb
      exact ⟨v, .ty T, .type t, .type T, b, rfl, .ty T, tyOf_ok hr1 rx et, kit_ty eb, PoG.val h1 hr1 (.bl b)⟩
    · exact h1.elim
  · exact h1.elim
end

/-! ### dicts with ints and texts as keys -/
@[simp] def toKey : W → Option Key
  | .int i => some (.inl i) | .str x => some (.inr x) | _ => none
def valW {κ : Type} [DecidableEq κ] (kvs : List (κ × W)) (k : κ) : Option W := (kvs.find? fun kv => decide (kv.1 = k)).map (·.2)
def putKW {κ : Type} [DecidableEq κ] (kvs : List (κ × W)) (k : κ) (v : W) : List (κ × W) :=
  if kvs.any fun kv => decide (kv.1 = k) then kvs.map fun kv => if kv.1 = k then (kv.1, v) else kv else kvs ++ [(k, v)]
@[simp] def mDGet (d k : ME) : ME := fun s st => (d s st).bind fun x st1 => (k s st1).bind fun y st2 => match x with
  | .ref i => match st2[i]?, toKey y with
    | some (.dK kvs), some k => match valW kvs k with
      | some w => .ok w st2
      | none => .stuck
    | _, _ => .stuck
  | _ => .stuck
section
variable {X : Cx} {Cl : Nat → Addr} {E : XK} {pos p : Pos} {md mk : ME} {o i : Expr}
theorem toKey_ok {K : PySem.W.Frag} {β : Bt} {H : Hp} {w : W} {v : V} {k : Key} (r : RV K β H w v) (h : toKey w = some k) : v = kV k := by
  cases w <;> first | (cases h; cases r; rfl) | cases h
theorem RF.val {K : PySem.W.Frag} {β : Bt} {H : Hp} {κ : Type} [DecidableEq κ] {k : κ} : ∀ {kvs : List (κ × W)} {gs : List (κ × V)} {w : W}, RF K β H kvs gs → valW kvs k = some w → ∃ v, valV gs k = some v ∧ RV K β H w v
  | _, _, _, .nil, e => by cases e
  | _, _, w, .cons (k := j) (w := u) (v := v) (fs := fs) (gs := gs) h r, e => by
    unfold valW at e
    unfold valV
    rw [List.find?_cons] at e ⊢
    by_cases hk : j = k
    · rw [decide_eq_true (show (j, u).1 = k from hk)] at e
      rw [decide_eq_true (show (j, v).1 = k from hk)]
      cases e
      exact ⟨v, rfl, h⟩
    · rw [decide_eq_false (show ¬ (j, u).1 = k from hk)] at e
      rw [decide_eq_false (show ¬ (j, v).1 = k from hk)]
      exact RF.val r e
theorem RF.valN {K : PySem.W.Frag} {β : Bt} {H : Hp} {κ : Type} [DecidableEq κ] {k : κ} : ∀ {kvs : List (κ × W)} {gs : List (κ × V)}, RF K β H kvs gs → valW kvs k = none → valV gs k = none
  | _, _, .nil, e => rfl
  | _, _, .cons (k := j) (w := u) (v := v) (fs := fs) (gs := gs) h r, e => by
    unfold valW at e
    unfold valV
    rw [List.find?_cons] at e ⊢
    by_cases hk : j = k
    · rw [decide_eq_true (show (j, u).1 = k from hk)] at e
      cases e
    · rw [decide_eq_false (show ¬ (j, u).1 = k from hk)] at e
      rw [decide_eq_false (show ¬ (j, v).1 = k from hk)]
      exact RF.valN r e
theorem je_dget (hu : X.A.units + 1 < cLine) (ho : JE X Cl E o md) (hi : JE X Cl E i mk) (hs : NoSl i := by exact fun _ _ => rfl) : JE X Cl E (.Subscript o i pos) (mDGet md mk) := by
  obtain ⟨_, p1, q1⟩ := ho.ex
  obtain ⟨_, p2, q2⟩ := hi.ex
  refine ⟨_, pe_dget hu p1 p2 hs, fun β H σ s st Q hr hs h => q1 β H σ s st _ hr hs (h.bind fun x st1 β1 H1 v _ e1 hr1 rx1 h1 => q2 β1 H1 σ s st1 _ hr1 (hs.ext e1) (h1.bind fun y st2 β2 H2 u _ e2 hr2 ry h2 => ?_))⟩
  have rx := rx1.ext e2
  cases x with
  | ref j =>
    simp only at h2
    split at h2
    · rename_i kvs k es ek
      split at h2
      · rename_i w ew
        obtain ⟨a, rfl, _, gs, hg, hrs⟩ := rx.atRef hr2 es (by intro z; cases z)
        obtain ⟨v, hv, rv⟩ := hrs.val ew
        exact ⟨a, v, rfl, .inl ⟨gs, k, .inl hg, toKey_ok ry ek, hv.symm⟩, PoG.val h2 hr2 rv⟩
      · exact h2.elim
    · exact h2.elim
  | _ => exact h2.elim
end

/-! ### a written dict -/
@[simp] def mPairs : List (ME × ME) → Slo → Sto → Out (List (W × W))
  | [], _, st => .ok [] st
  | (k, v) :: r, s, st => (k s st).bind fun x st1 => (v s st1).bind fun y st2 => (mPairs r s st2).bind fun ps st3 => .ok ((x, y) :: ps) st3
@[simp] def keyed : List (W × W) → Option (List (Key × W))
  | [] => some []
  | (x, y) :: r => match toKey x, keyed r with
    | some k, some ks => some ((k, y) :: ks)
    | _, _ => none
def mergeW (kvs more : List (Key × W)) : List (Key × W) := more.foldl (fun acc kv => putKW acc kv.1 kv.2) kvs
@[simp] def mDisp (ps : List (ME × ME)) : ME := fun s st => (mPairs ps s (st ++ [.dK []])).bind fun rs st2 => match st2[st.length]?, keyed rs with
  | some (.dK []), some kvs => if kvs.length ≤ 15 then .ok (.ref st.length) (st2.set st.length (.dK (mergeW [] kvs))) else .stuck
  | _, _ => .stuck
inductive RPs (K : PySem.W.Frag) (β : Bt) (H : Hp) : List (W × W) → List (V × V) → Prop
  | nil : RPs K β H [] []
  | cons {x y : W} {a b : V} {ws : List (W × W)} {vs : List (V × V)} : RV K β H x a → RV K β H y b → RPs K β H ws vs → RPs K β H ((x, y) :: ws) ((a, b) :: vs)
inductive JPs (X : Cx) (Cl : Nat → Addr) (E : XK) (pos : Pos) : List (Option Expr) → List Expr → List (TE × TE) → List (ME × ME) → Prop
  | nil : JPs X Cl E pos [] [] [] []
  | cons {k v : Expr} {ks : List (Option Expr)} {vs : List Expr} {tk tv : TE} {mk mv : ME} {ts : List (TE × TE)} {ms : List (ME × ME)} : PE X k tk → SE X.K Cl E tk mk → PE X v tv → SE X.K Cl E tv mv → JPs X Cl E pos ks vs ts ms → JPs X Cl E pos (some k :: ks) (v :: vs) ((tk, tv) :: ts) ((mk, mv) :: ms)
structure JP (X : Cx) (Cl : Nat → Addr) (E : XK) (pos : Pos) (ks : List (Option Expr)) (vs : List Expr) (ms : List (ME × ME)) : Prop where
  ex : ∃ ts, JPs X Cl E pos ks vs ts ms
section
variable {X : Cx} {Cl : Nat → Addr} {E : XK} {pos : Pos}
theorem jp_nil : JP X Cl E pos [] [] [] := ⟨[], .nil⟩
theorem jp_cons {k v : Expr} {ks : List (Option Expr)} {vs : List Expr} {mk mv : ME} {ms : List (ME × ME)} (hk : JE X Cl E k mk) (hv : JE X Cl E v mv) (h : JP X Cl E pos ks vs ms) : JP X Cl E pos (some k :: ks) (v :: vs) ((mk, mv) :: ms) := by
  obtain ⟨_, p1, q1⟩ := hk.ex
  obtain ⟨_, p2, q2⟩ := hv.ex
  obtain ⟨ts, h⟩ := h.ex
  exact ⟨_, .cons p1 q1 p2 q2 h⟩
theorem JPs.pps {ks : List (Option Expr)} {vs : List Expr} {ts : List (TE × TE)} {ms : List (ME × ME)} (h : JPs X Cl E pos ks vs ts ms) : PPs X pos ks vs ts := by
  induction h with
  | nil => exact pps_nil
  | cons p1 _ p2 _ _ ih => exact pps_cons p1 p2 ih
theorem JPs.sim {ks : List (Option Expr)} {vs : List Expr} {ts : List (TE × TE)} {ms : List (ME × ME)} (h : JPs X Cl E pos ks vs ts ms) : ∀ β H σ s st Q, HR X.K Cl β H st → SR X.K β H s σ → PoG X.K Cl (RPs X.K) E β H Q (mPairs ms s st) → tPairs ts σ H Q := by
  induction h with
  | nil => exact fun β H σ s st Q hr hs h => PoG.val h hr .nil
  | cons p1 q1 p2 q2 _ ih =>
    exact fun β H σ s st Q hr hs h => q1 β H σ s st _ hr hs (h.bind fun x st1 β1 H1 v _ e1 hr1 rx h1 => q2 β1 H1 σ s st1 _ hr1 (hs.ext e1) (h1.bind fun y st2 β2 H2 u _ e2 hr2 ry h2 => ih β2 H2 σ s st2 _ hr2 ((hs.ext e1).ext e2) (h2.bind fun ps st3 β3 H3 us _ e3 hr3 rp h3 =>
      PoG.val h3 hr3 (.cons (rx.ext (e2.trans e3)) (ry.ext e3) rp))))
theorem RF.any {K : PySem.W.Frag} {β : Bt} {H : Hp} {κ : Type} [DecidableEq κ] {k : κ} : ∀ {kvs : List (κ × W)} {gs : List (κ × V)}, RF K β H kvs gs → (kvs.any fun kv => decide (kv.1 = k)) = (gs.any fun kv => decide (kv.1 = k))
  | _, _, .nil => rfl
  | _, _, .cons h r => by
    rw [List.any_cons, List.any_cons, RF.any r] <;> rfl
theorem RF.repl {K : PySem.W.Frag} {β : Bt} {H : Hp} {κ : Type} [DecidableEq κ] {k : κ} {y : W} {v : V} (ry : RV K β H y v) : ∀ {kvs : List (κ × W)} {gs : List (κ × V)}, RF K β H kvs gs → RF K β H (kvs.map fun kv => if kv.1 = k then (kv.1, y) else kv) (gs.map fun kv => if kv.1 = k then (kv.1, v) else kv)
  | _, _, .nil => .nil
  | _, _, .cons (k := j) h r => by
    rw [List.map_cons, List.map_cons]
    by_cases e : j = k
    · rw [if_pos (show (j, _).1 = k from e), if_pos (show (j, _).1 = k from e)]
      exact .cons ry (RF.repl ry r)
    · rw [if_neg (show ¬ (j, _).1 = k from e), if_neg (show ¬ (j, _).1 = k from e)]
      exact .cons h (RF.repl ry r)
theorem RF.append {K : PySem.W.Frag} {β : Bt} {H : Hp} {κ : Type} : ∀ {kvs more : List (κ × W)} {gs hs : List (κ × V)}, RF K β H kvs gs → RF K β H more hs → RF K β H (kvs ++ more) (gs ++ hs)
  | _, _, _, _, .nil, s => s
  | _, _, _, _, .cons h r, s => .cons h (RF.append r s)
theorem RF.put {K : PySem.W.Frag} {β : Bt} {H : Hp} {κ : Type} [DecidableEq κ] {kvs : List (κ × W)} {gs : List (κ × V)} (r : RF K β H kvs gs) (k : κ) {y : W} {v : V} (ry : RV K β H y v) : RF K β H (putKW kvs k y) (putK gs k v) := by
  unfold putKW putK
  rw [r.any (k := k)]
  split
  · exact r.repl ry
  · exact r.append (.cons ry .nil)
theorem RF.merge {K : PySem.W.Frag} {β : Bt} {H : Hp} : ∀ {more : List (Key × W)} {hs : List (Key × V)} {kvs : List (Key × W)} {gs : List (Key × V)}, RF K β H more hs → RF K β H kvs gs → RF K β H (mergeW kvs more) (mergeK gs hs)
  | _, _, _, _, .nil, r => r
  | _, _, kvs, gs, .cons (k := k) (w := w) (v := v) (fs := fs) (gs := hs) h t, r => by
    show RF K β H (mergeW (putKW kvs k w) fs) (mergeK (putK gs k v) hs)
    exact RF.merge t (r.put k h)
theorem keyed_ok {K : PySem.W.Frag} {β : Bt} {H : Hp} : ∀ {ws : List (W × W)} {vs : List (V × V)} {kvs : List (Key × W)}, RPs K β H ws vs → keyed ws = some kvs → ∃ gs : List (Key × V), vs = gs.map (fun kv => (kV kv.1, kv.2)) ∧ RF K β H kvs gs
  | _, _, _, .nil, h => by cases h; exact ⟨[], rfl, .nil⟩
  | _, _, _, .cons (x := x) (ws := ws) (b := b) rx ry r, h => by
    unfold keyed at h
    split at h
    · rename_i k ks e1 e2
      cases h
      obtain ⟨gs, e, rf⟩ := keyed_ok r e2
      have ek := toKey_ok rx e1
      subst e ek
      exact ⟨(k, b) :: gs, rfl, .cons ry rf⟩
    · cases h
theorem je_disp {ks : List (Option Expr)} {vs : List Expr} {ms : List (ME × ME)} (h : JP X Cl E pos ks vs ms) (hall : ks.all (·.isSome) = true := by rfl) (hl : ks.length = vs.length := by rfl) (h0 : ks ≠ [] := by exact List.cons_ne_nil _ _) (h15 : ks.length ≤ 15 := by decide) : JE X Cl E (.Dict ks vs pos) (mDisp ms) := by
  obtain ⟨ts, h⟩ := h.ex
  refine ⟨_, pe_disp h.pps hall hl h0 h15, fun β H σ s st Q hr hs hp p hn => ?_⟩
  have ep : Ext X.K β H (β.push p) (upd H p (.dK [])) := Ext.push hn
  have hr' : HR X.K Cl (β.push p) (upd H p (.dK [])) (st ++ [.dK []]) := hr.push hn ⟨[], upd_same, .nil⟩
  refine h.sim _ _ σ s _ _ hr' (hs.ext ep) ((PoG.ext ep hp).bind fun rs st2 β2 H2 us _ e2 hr2 rp h2 => ?_)
  split at h2
  · rename_i kvs e1 e3
    split at h2
    · rename_i hz
      have hb : (β.push p).l[st.length]? = some (some p) := by rw [← hr.len]; exact push_last
      obtain ⟨a, hb2, gs0, hg, r0⟩ := hr2.at e1 (by intro z; cases z)
      cases r0
      have ha : a = p := by
        rcases e2.live _ _ hb with q | q
        · rw [hb2] at q
          exact Option.some.inj (Option.some.inj q)
        · rw [hb2] at q
          cases q
      subst ha
      obtain ⟨gs, eg, rf⟩ := keyed_ok rp e3
      have hlen : gs.length ≤ 15 := by rw [← rf.length]; exact hz
      have em : Ext X.K β2 H2 β2 (upd H2 a (.dK (mergeK [] gs))) := Ext.mut hr2 hb2 hg trivial
      exact ⟨hg, gs, eg, hlen, h2 β2 _ _ em (hr2.mut hb2 hg trivial ⟨_, upd_same, (rf.merge .nil).ext em⟩) (.ref hb2)⟩
    · exact h2.elim
  · exact h2.elim
end
end Mi
/-! The mirror layer, part E: statements, loops, comprehensions. -/
namespace Mi
open PySem L2

structure JS (X : Cx) (Cl : Nat → Addr) (E : XK) (x : Stmt) (m : MS) : Prop where
  ex : ∃ t, PS X x t ∧ SS X.K Cl E t m
structure JSs (X : Cx) (Cl : Nat → Addr) (E : XK) (x : List Stmt) (m : MS) : Prop where
  ex : ∃ t, PSs X x t ∧ SS X.K Cl E t m

@[simp] def SO.then : SO → MS → SO
  | .nx s st, k => k s st
  | .rt w st, _ => .rt w st
  | .bk s st, _ => .bk s st
  | .ct s st, _ => .ct s st
  | .exc c fs st, _ => .exc c fs st
  | .stuck, _ => .stuck
/-- an evaluation's outcome, then a statement's -/
@[simp] def Out.run {α : Type} : Out α → (α → Sto → SO) → SO
  | .ok a st, k => k a st
  | .exc c fs st, _ => .exc c fs st
  | .stuck, _ => .stuck
@[simp] def mSkip : MS := fun s st => .nx s st
@[simp] def mSeq (a b : MS) : MS := fun s st => (a s st).then b
@[simp] def mBrk : MS := fun s st => .bk s st
@[simp] def mCont : MS := fun s st => .ct s st
@[simp] def mDrop (e : ME) : MS := fun s st => (e s st).run fun _ st1 => .nx s st1
@[simp] def mRet (e : ME) : MS := fun s st => (e s st).run fun w st1 => .rt w st1
@[simp] def mRetN : MS := fun _ st => .rt .non st
@[simp] def mIfS (t : MT) (a b : MS) : MS := fun s st => (t s st).run fun k st1 => if k = true then a s st1 else b s st1
abbrev MG := W → Slo → Sto → Option (Slo × Sto)
abbrev MGs := List W → Slo → Sto → Option (Slo × Sto)
@[simp] def mGN (i : Nat) : MG := fun w s st => some (s.set i (some w), st)
@[simp] def mGNil : MGs := fun ws s st => match ws with
  | [] => some (s, st)
  | _ => none
@[simp] def mGCons (g : MG) (r : MGs) : MGs := fun ws s st => match ws with
  | w :: ws => match g w s st with
    | some (s1, st1) => r ws s1 st1
    | none => none
  | [] => none
@[simp] def mGTup (n : Nat) (g : MGs) : MG := fun w s st => match w with
  | .tup ws => if ws.length = n then g ws s st else none
  | _ => none
@[simp] def mGSub (o i : ME) : MG := fun w s st => match o s st with
  | .ok x st1 => match i s st1 with
    | .ok y st2 => match x, y with
      | .ref r, .int k => match st2[r]? with
        | some (.lst ws) => match ixN ws.length k with
          | some j => some (s, st2.set r (.lst (ws.set j w)))
          | none => none
        | _ => none
      | _, _ => none
    | _ => none
  | _ => none
@[simp] def mGFld (c : Nat) (f : Str) (o : ME) : MG := fun w s st => match o s st with
  | .ok x st1 => match x with
    | .ref r => match st1[r]? with
      | some (.ins d fs) => if d = c ∧ fs.length < 1000 then some (s, st1.set r (.ins c (putW f w fs))) else none
      | _ => none
    | _ => none
  | _ => none
@[simp] def mAsg (e : ME) (g : MG) : MS := fun s st => (e s st).run fun w st1 => match g w s st1 with
  | some (s1, st2) => .nx s1 st2
  | none => .stuck
@[simp] def mSetF (c : Nat) (f : Str) (o e : ME) : MS := fun s st => (e s st).run fun w st1 => (o s st1).run fun x st2 => match x with
  | .ref r => match st2[r]? with
    | some (.ins d fs) => if d = c ∧ fs.length < 1000 then .nx s (st2.set r (.ins c (putW f w fs))) else .stuck
    | _ => .stuck
  | _ => .stuck
@[simp] def mDPut (d k e : ME) : MS := fun s st => (e s st).run fun w st1 => (d s st1).run fun x st2 => (k s st2).run fun y st3 => match x with
  | .ref r => match st3[r]?, toKey y with
    | some (.dK kvs), some k => if kvs.length < sizeLine then .nx s (st3.set r (.dK (putKW kvs k w))) else .stuck
    | _, _ => .stuck
  | _ => .stuck
/-- name op= e -/
@[simp] def mAug (i : Nat) (e : ME) (f : Int → Int → Int) : MS := fun s st => match s[i]? with
  | some (some (.int a)) => (e s st).run fun y st1 => match y with
    | .int b => .nx (s.set i (some (.int (f a b)))) st1
    | _ => .stuck
  | _ => .stuck
@[simp] def mPar (i j : Nat) (a : MA) : MS := fun s st => (a s st).run fun ws st1 => match ws with
  | [v, w] => .nx ((s.set i (some v)).set j (some w)) st1
  | _ => .stuck

section
variable {K : PySem.W.Frag} {Cl : Nat → Addr} {E : XK} {β : Bt} {H : Hp} {α ω : Type} {R1 : Bt → Hp → α → ω → Prop} {D : Ends}
theorem PoS.run {Q1 : ω → Hp → Prop} {o : Out α} {f : α → Sto → SO} (h : PoS K Cl E D β H (o.run f))
    (k : ∀ a st1 β1 H1 v, o = .ok a st1 → Ext K β H β1 H1 → HR K Cl β1 H1 st1 → R1 β1 H1 a v → PoS K Cl E D β1 H1 (f a st1) → Q1 v H1) : PoG K Cl R1 E β H Q1 o := by
  cases o with
  | ok a st => exact fun β1 H1 v e hr r => k a st β1 H1 v rfl e hr r (PoS.ext e h)
  | exc c fs st => exact h
  | stuck => exact h
theorem PoS.val {s : Slo} {st : Sto} {σ : L2.St} (h : PoS K Cl E D β H (.nx s st)) (hr : HR K Cl β H st) (hs : SR K β H s σ) : D.nx σ H := h β H σ (Ext.refl K β H) hr hs
/-- a target's end -/
def PoT (K : PySem.W.Frag) (Cl : Nat → Addr) (Q : L2.St → Hp → Prop) (β : Bt) (H : Hp) : Option (Slo × Sto) → Prop
  | some (s, st) => ∀ β' H' σ', Ext K β H β' H' → HR K Cl β' H' st → SR K β' H' s σ' → Q σ' H'
  | none => False
theorem PoT.ext {Q : L2.St → Hp → Prop} {β' : Bt} {H' : Hp} {o : Option (Slo × Sto)} (e : Ext K β H β' H') (h : PoT K Cl Q β H o) : PoT K Cl Q β' H' o := by
  cases o with
  | some p => exact fun β2 H2 σ2 e2 hr hs => h β2 H2 σ2 (e.trans e2) hr hs
  | none => exact h
def SG (K : PySem.W.Frag) (Cl : Nat → Addr) (g : TG) (m : MG) : Prop := ∀ β H σ s st w v Q, HR K Cl β H st → SR K β H s σ → RV K β H w v → PoT K Cl Q β H (m w s st) → g v σ H Q
def SGs (K : PySem.W.Frag) (Cl : Nat → Addr) (g : TGs) (m : MGs) : Prop := ∀ β H σ s st ws vs Q, HR K Cl β H st → SR K β H s σ → RVs K β H ws vs → PoT K Cl Q β H (m ws s st) → g vs σ H Q
theorem ss_seq {t u : TS} {a b : MS} (ha : SS K Cl E t a) (hb : SS K Cl E u b) : SS K Cl E (tSeq t u) (mSeq a b) := fun β H σ s st D hr hs h => by
  refine ha β H σ s st _ hr hs ?_
  unfold mSeq at h
  cases e : a s st with
  | nx s1 st1 => rw [e] at h; exact fun β1 H1 σ1 e1 hr1 hs1 => hb β1 H1 σ1 s1 st1 D hr1 hs1 (PoS.ext e1 h)
  | rt w st1 => rw [e] at h; exact h
  | bk s1 st1 => rw [e] at h; exact h
  | ct s1 st1 => rw [e] at h; exact h
  | exc c fs st1 => rw [e] at h; exact h
  | stuck => rw [e] at h; exact h
end

section
variable {X : Cx} {Cl : Nat → Addr} {E : XK} {pos : Pos} {ma mb md mk : ME} {ta : MT} {m1 m2 : MS} {a b c e o : Expr} {st : Stmt} {rest as bs : List Stmt}
theorem jss_nil : JSs X Cl E [] mSkip := ⟨_, pss_nil, fun β H σ s st D hr hs h => PoS.val h hr hs⟩
theorem jss_cons (h1 : JS X Cl E st m1) (h2 : JSs X Cl E rest m2) : JSs X Cl E (st :: rest) (mSeq m1 m2) := by
  obtain ⟨_, p1, q1⟩ := h1.ex
  obtain ⟨_, p2, q2⟩ := h2.ex
  exact ⟨_, pss_cons p1 p2, ss_seq q1 q2⟩
theorem jss_one (h1 : JS X Cl E st m1) : JSs X Cl E [st] m1 := by
  obtain ⟨_, p1, q1⟩ := h1.ex
  exact ⟨_, pss_one p1, q1⟩
theorem js_pass : JS X Cl E (.Pass pos) mSkip := ⟨_, ps_pass, fun β H σ s st D hr hs h => PoS.val h hr hs⟩
theorem js_doc {x j pos'} : JS X Cl E (.Expr (.Constant (.str x) j pos) pos') mSkip := ⟨_, ps_doc, fun β H σ s st D hr hs h => PoS.val h hr hs⟩
theorem js_brk : JS X Cl E (.Break pos) mBrk := ⟨_, ps_break, fun β H σ s st D hr hs h => h β H σ (Ext.refl _ β H) hr hs⟩
theorem js_cont : JS X Cl E (.Continue pos) mCont := ⟨_, ps_continue, fun β H σ s st D hr hs h => h β H σ (Ext.refl _ β H) hr hs⟩
theorem js_expr (h : JE X Cl E e ma) (hs : swapsWith e none pos.line X.env = pure false := by rfl) : JS X Cl E (.Expr e pos) (mDrop ma) := by
  obtain ⟨_, p, q⟩ := h.ex
  exact ⟨_, ps_expr p hs, fun β H σ s st D hr hs h => q β H σ s st _ hr hs (h.run fun x st1 β1 H1 v _ e1 hr1 rx h1 => PoS.val h1 hr1 (hs.ext e1))⟩
theorem js_ret (h : JE X Cl E e ma) : JS X Cl E (.Return (some e) pos) (mRet ma) := by
  obtain ⟨_, p, q⟩ := h.ex
  exact ⟨_, ps_ret p, fun β H σ s st D hr hs h => q β H σ s st _ hr hs (h.run fun x st1 β1 H1 v _ e1 hr1 rx h1 => h1 β1 H1 v (Ext.refl _ β1 H1) hr1 rx)⟩
theorem js_retN : JS X Cl E (.Return none pos) mRetN := ⟨_, ps_retN, fun β H σ s st D hr hs h => h β H .non (Ext.refl _ β H) hr .non⟩
theorem js_if (hc : JT X Cl E c ta) (h1 : JSs X Cl E as m1) (h2 : JSs X Cl E bs m2) : JS X Cl E (.If c as bs pos) (mIfS ta m1 m2) := by
  obtain ⟨_, p, q⟩ := hc.ex
  obtain ⟨_, p1, q1⟩ := h1.ex
  obtain ⟨_, p2, q2⟩ := h2.ex
  refine ⟨_, ps_if p p1 p2, fun β H σ s st D hr hs h => q β H σ s st _ hr hs (h.run fun x st1 β1 H1 v _ e1 hr1 rx h1 => ?_)⟩
  cases rx
  cases x with
  | true => rw [if_pos rfl] at h1 ⊢; exact q1 β1 H1 σ s st1 D hr1 (hs.ext e1) h1
  | false => rw [if_neg Bool.false_ne_true] at h1 ⊢; exact q2 β1 H1 σ s st1 D hr1 (hs.ext e1) h1

/-! ### targets -/
structure JG (X : Cx) (Cl : Nat → Addr) (tg : Expr) (m : MG) : Prop where
  ex : ∃ g, PG X tg g ∧ SG X.K Cl g m
structure JGs (X : Cx) (Cl : Nat → Addr) (tgs : List Expr) (m : MGs) : Prop where
  ex : ∃ g, PGs X tgs g ∧ SGs X.K Cl g m
theorem jg_name (i : Nat) {x : Str} (hN : X.N.Nodup) (hi : X.N[i]? = some x := by rfl) (hx : Loc X.env.scope x := by first | exact .inl rfl | exact .inr rfl) (hf : X.fn x = true ∨ X.env.scope.names.lookup x = some .local := by first | exact .inl rfl | exact .inr rfl) : JG X Cl (.Name x pos) (mGN i) :=
  ⟨_, pg_name hN hi hx hf, fun β H σ s st w v Q hr hs rw h => h β H _ (Ext.refl _ β H) hr (hs.set rw)⟩
theorem jgs_nil : JGs X Cl [] mGNil := by
  refine ⟨_, pgs_nil, fun β H σ s st ws vs Q hr hs rw h => ?_⟩
  unfold mGNil at h
  split at h
  · cases rw
    exact ⟨rfl, h β H _ (Ext.refl _ β H) hr hs⟩
  · exact h.elim
theorem jgs_cons {g : MG} {r : MGs} {t : Expr} {ts : List Expr} (h1 : JG X Cl t g) (h2 : JGs X Cl ts r) (hs : (assignEach (t :: ts) X.env).map (·.2) = assign t X.env :: (assignEach ts X.env).map (·.2) := by rfl) : JGs X Cl (t :: ts) (mGCons g r) := by
  obtain ⟨_, p1, q1⟩ := h1.ex
  obtain ⟨_, p2, q2⟩ := h2.ex
  refine ⟨_, pgs_cons p1 p2 hs, fun β H σ s st ws vs Q hr hs rw h => ?_⟩
  unfold mGCons at h
  split at h
  · rename_i w ws
    cases rw with
    | cons r1 r2 =>
      refine ⟨_, _, rfl, q1 β H σ s st _ _ _ hr hs r1 ?_⟩
      cases e : g w s st with
      | none => rw [e] at h; exact h.elim
      | some p =>
        obtain ⟨s1, st1⟩ := p
        rw [e] at h
        exact fun β1 H1 σ1 e1 hr1 hs1 => q2 β1 H1 σ1 s1 st1 _ _ Q hr1 hs1 (r2.ext e1) (PoT.ext e1 h)
  · exact h.elim
theorem jg_tup {r : MGs} {ts : List Expr} {k : Nat} {n : Nat} (hc : X.calm = true) (h : JGs X Cl ts r) (hn : (assignEach ts X.env).length = n := by rfl) (hst : (assignEach ts X.env).findIdx? (·.1) = none := by rfl) : JG X Cl (.Tuple ts k pos) (mGTup n r) := by
  obtain ⟨_, p, q⟩ := h.ex
  refine ⟨_, pg_tup hc p hn hst, fun β H σ s st w v Q hr hs rw h => ?_⟩
  unfold mGTup at h
  split at h
  · split at h
    · rename_i hl
      cases rw with
      | tup h1 r1 => exact ⟨_, _, rfl, h1, by rw [← r1.length]; exact hl, q β H σ s st _ _ Q hr hs r1 h⟩
    · exact h.elim
  · exact h.elim
theorem jg_sub {i : Expr} (ho : JE X Cl E o ma) (hi : JE X Cl E i mb)
    (ha : ∀ v, assign (.Subscript o i pos) X.env v = (do
      let ov ← holding [v] (eval o X.env)
      let iv ← holding [v, ov] (eval i X.env)
      standAt pos
      holding [v, ov, iv] (setItem ov iv v)
      release [v, ov, iv] []) := by intro _; rfl) : JG X Cl (.Subscript o i pos) (mGSub ma mb) := by
  obtain ⟨_, p1, q1⟩ := ho.ex
  obtain ⟨_, p2, q2⟩ := hi.ex
  refine ⟨_, pg_sub p1 p2 set_list ha, fun β H σ s st w v Q hr hs rw h => q1 β H σ s st _ hr hs ?_⟩
  unfold mGSub at h
  cases e1 : ma s st with
  | exc c fs x => rw [e1] at h; exact h.elim
  | stuck => rw [e1] at h; exact h.elim
  | ok x st1 =>
    rw [e1] at h
    intro β1 H1 v1 x1 hr1 rx
    refine q2 β1 H1 σ s st1 _ hr1 (hs.ext x1) ?_
    simp only at h
    cases e2 : mb s st1 with
    | exc c fs x => rw [e2] at h; exact h.elim
    | stuck => rw [e2] at h; exact h.elim
    | ok y st2 =>
      rw [e2] at h
      intro β2 H2 v2 x2 hr2 ry
      simp only at h
      split at h
      · rename_i r k
        split at h
        · rename_i ws es
          split at h
          · rename_i j ej
            have rx2 := rx.ext x2
            obtain ⟨a, rfl, hb, vs, hv, hrs⟩ := rx2.atRef hr2 es (by intro z; cases z)
            cases ry
            have em : Ext X.K β2 H2 β2 (upd H2 a (.lst (vs.set j v))) := Ext.mut hr2 hb hv trivial
            refine ⟨a, vs, k, j, rfl, rfl, hv, by rw [← hrs.length]; exact ej, ?_⟩
            have hrw := hrs.set ((rw.ext x1).ext x2) j
            exact h β2 _ σ ((x1.trans x2).trans em) (hr2.mut hb hv trivial ⟨_, upd_same, hrw.ext em⟩) (((hs.ext x1).ext x2).ext em)
          · exact h.elim
        · exact h.elim
      · exact h.elim
theorem js_asg {tg : Expr} {g : MG} (he : JE X Cl E e ma) (hg : JG X Cl tg g) (hs : swapsWithSole [tg] e pos.line X.env = pure false := by rfl) (hw : swappedStores [tg] e X.env = pure none := by rfl)
    (h1 : (assignEach [tg] X.env).map (·.2) = [assign tg X.env] := by rfl) : JS X Cl E (.Assign [tg] e pos) (mAsg ma g) := by
  obtain ⟨_, p1, q1⟩ := he.ex
  obtain ⟨_, p2, q2⟩ := hg.ex
  refine ⟨_, ps_asg p1 p2 hs hw h1, fun β H σ s st D hr hs h => q1 β H σ s st _ hr hs (h.run fun x st1 β1 H1 v _ e1 hr1 rx h1 => q2 β1 H1 σ s st1 x v _ hr1 (hs.ext e1) rx ?_)⟩
  split at h1
  · rename_i s1 st2 eg
    rw [eg]
    exact h1
  · exact h1.elim
theorem js_set (i : Nat) {x : Str} {pos' : Pos} (hN : X.N.Nodup) (he : JE X Cl E e ma) (hi : X.N[i]? = some x := by rfl) (hx : Loc X.env.scope x := by first | exact .inl rfl | exact .inr rfl) (hs : swapsWith e (some (.Name x pos')) pos.line X.env = pure false := by rfl) (hf : X.fn x = true ∨ X.env.scope.names.lookup x = some .local := by first | exact .inl rfl | exact .inr rfl) :
    JS X Cl E (.Assign [.Name x pos'] e pos) (mAsg ma (mGN i)) := by
  obtain ⟨_, p1, q1⟩ := he.ex
  exact ⟨_, ps_set hN hi hx p1 hs hf, fun β H σ s st D hr hs h => q1 β H σ s st _ hr hs (h.run fun x st1 β1 H1 v _ e1 hr1 rx h1 => PoS.val h1 hr1 ((hs.ext e1).set rx))⟩
theorem js_par (i j : Nat) {x y : Str} {px py pt pt2 : Pos} {kt k2 : Nat} {mp : MA} (hN : X.N.Nodup) (hc : X.calm = true) (ha : JA X Cl E [a, b] mp) (hij : i ≠ j := by decide) (hi : X.N[i]? = some x := by rfl) (hj : X.N[j]? = some y := by rfl)
    (hx : X.env.scope.names.lookup x = some .local := by rfl) (hy : X.env.scope.names.lookup y = some .local := by rfl)
    (hw : swappedStores [.Tuple [.Name x px, .Name y py] kt pt] (.Tuple [a, b] k2 pt2) X.env = pure (some [x, y]) := by rfl)
    (hs : swapsWithSole [.Tuple [.Name x px, .Name y py] kt pt] (.Tuple [a, b] k2 pt2) pos.line X.env = pure false := by rfl) :
    JS X Cl E (.Assign [.Tuple [.Name x px, .Name y py] kt pt] (.Tuple [a, b] k2 pt2) pos) (mPar i j mp) := by
  obtain ⟨_, p1, q1⟩ := ha.ex
  refine ⟨_, ps_par hc hN hi hj hij hx hy p1 hw hs, fun β H σ s st D hr hs h => q1 β H σ s st _ hr hs (h.run fun x st1 β1 H1 v _ e1 hr1 rx h1 => ?_)⟩
  split at h1
  · obtain ⟨v1, v2, rfl, r1, r2⟩ := RVs.two rx
    exact ⟨v1, v2, rfl, PoS.val h1 hr1 (((hs.ext e1).set r1).set r2)⟩
  · exact h1.elim
theorem putW_ok {K : PySem.W.Frag} {β : Bt} {H : Hp} {f : Str} {w : W} {v : V} (r : RV K β H w v) : ∀ {fs : Fl} {gs : List (Str × V)}, RF K β H fs gs → RF K β H (putW f w fs) (putF f v gs)
  | _, _, .nil => .cons r .nil
  | _, _, .cons (k := g) h t => by
    show RF K β H (if g = f then _ else _) (if g = f then _ else _)
    by_cases e : g = f
    · rw [if_pos e, if_pos e]
      subst e
      exact .cons r t
    · rw [if_neg e, if_neg e]
      exact .cons h (putW_ok r t)
theorem js_fld {c : Nat} {f : Str} {pos' : Pos} (hc : Cls X.K (Cl c)) (hn : NoAttr X.K (Cl c) f) (ho : JE X Cl E o mb) (he : JE X Cl E e ma) (hs : swapsWith e (some (.Attribute o f pos')) pos.line X.env = pure false := by rfl) :
    JS X Cl E (.Assign [.Attribute o f pos'] e pos) (mSetF c f mb ma) := by
  obtain ⟨_, p1, q1⟩ := he.ex
  obtain ⟨_, p2, q2⟩ := ho.ex
  refine ⟨_, ps_fld p2 p1 hs, fun β H σ s st D hr hs h => q1 β H σ s st _ hr hs (h.run fun x st1 β1 H1 v _ e1 hr1 rx h1 => q2 β1 H1 σ s st1 _ hr1 (hs.ext e1) (h1.run fun y st2 β2 H2 u _ e2 hr2 ry h2 => ?_))⟩
  cases y with
  | ref r =>
    simp only at h2
    split at h2
    · rename_i d fs es
      split at h2
      · rename_i hd
        obtain ⟨rfl, hl⟩ := hd
        obtain ⟨a, rfl, hb, dx, gs, hv, hrs⟩ := ry.atRef hr2 es (by intro z; cases z)
        have em : Ext X.K β2 H2 β2 (upd H2 a (.ins (Cl d) dx (putF f v gs))) := Ext.mut hr2 hb hv trivial
        exact ⟨a, _, dx, gs, rfl, hv, hc, hn, by rw [← hrs.length]; exact hl, h2 β2 _ σ em (hr2.mut hb hv trivial ⟨dx, _, upd_same, (putW_ok (rx.ext e2) hrs).ext em⟩) (((hs.ext e1).ext e2).ext em)⟩
      · exact h2.elim
    · exact h2.elim
  | _ => exact h2.elim
theorem js_dput {i : Expr} {pos' : Pos} (hu : X.A.units + 1 < cLine) (ho : JE X Cl E o md) (hi : JE X Cl E i mk) (he : JE X Cl E e ma) (hs : swapsWith e (some (.Subscript o i pos')) pos.line X.env = pure false := by rfl) :
    JS X Cl E (.Assign [.Subscript o i pos'] e pos) (mDPut md mk ma) := by
  obtain ⟨_, p1, q1⟩ := he.ex
  obtain ⟨_, p2, q2⟩ := ho.ex
  obtain ⟨_, p3, q3⟩ := hi.ex
  refine ⟨_, ps_dput hu p2 p3 p1 hs, fun β H σ s st D hr hs h => q1 β H σ s st _ hr hs (h.run fun x st1 β1 H1 v _ e1 hr1 rx h1 => q2 β1 H1 σ s st1 _ hr1 (hs.ext e1) (h1.run fun y st2 β2 H2 u _ e2 hr2 ry0 h2 =>
    q3 β2 H2 σ s st2 _ hr2 ((hs.ext e1).ext e2) (h2.run fun z st3 β3 H3 t _ e3 hr3 rz h3 => ?_)))⟩
  have ry := ry0.ext e3
  cases y with
  | ref r =>
    simp only at h3
    split at h3
    · rename_i kvs k es ek
      split at h3
      · rename_i hl
        obtain ⟨a, rfl, hb, gs, hv, hrs⟩ := ry.atRef hr3 es (by intro z; cases z)
        have em : Ext X.K β3 H3 β3 (upd H3 a (.dK (putK gs k v))) := Ext.mut hr3 hb hv trivial
        exact ⟨a, _, rfl, .inl ⟨gs, k, hv, toKey_ok rz ek, by rw [← hrs.length]; exact hl, rfl⟩, h3 β3 _ σ em (hr3.mut hb hv trivial ⟨_, upd_same, (hrs.put k ((rx.ext e2).ext e3)).ext em⟩) ((((hs.ext e1).ext e2).ext e3).ext em)⟩
      · exact h3.elim
    · exact h3.elim
  | _ => exact h3.elim
theorem js_aug (i : Nat) {x : Str} {op : Operator} {f : Int → Int → Int} {pos' : Pos} (hN : X.N.Nodup) (ho : PIp X op (ipI f)) (he : JE X Cl E e ma) (hi : X.N[i]? = some x := by rfl) (hx : Loc X.env.scope x := by first | exact .inl rfl | exact .inr rfl) (hf : X.fn x = true ∨ X.env.scope.names.lookup x = some .local := by first | exact .inl rfl | exact .inr rfl) :
    JS X Cl E (.AugAssign (.Name x pos') op e pos) (mAug i ma f) := by
  obtain ⟨_, p1, q1⟩ := he.ex
  refine ⟨_, ps_aug hN hi hx p1 ho hf, fun β H σ s st D hr hs h => ?_⟩
  unfold mAug at h
  split at h
  · rename_i z ez
    obtain ⟨v, hv, rz⟩ := hs.2 i _ ez
    cases rz
    refine ⟨_, hv, q1 β H σ s st _ hr hs (h.run fun x st1 β1 H1 v _ e1 hr1 rx h1 => ?_)⟩
    cases x with
    | int b =>
      cases rx
      exact ⟨_, _, rfl, rfl, PoS.val h1 hr1 ((hs.ext e1).set (.int _))⟩
    | _ => exact h1.elim
  · exact h.elim
end

/-! ### while -/
/-- n: the turns at most -/
def mWhileN (c : MT) (body : MS) : Nat → MS
  | 0 => fun _ _ => .stuck
  | n + 1 => fun s st => (c s st).run fun k st1 => if k = true then
      match body s st1 with
      | .nx s2 st2 => mWhileN c body n s2 st2
      | .ct s2 st2 => mWhileN c body n s2 st2
      | .bk s2 st2 => .nx s2 st2
      | o => o
    else .nx s st1
section
variable {X : Cx} {Cl : Nat → Addr} {E : XK} {pos : Pos} {mc : MT} {mb : MS} {c : Expr} {body : List Stmt}
theorem ss_while {K : PySem.W.Frag} {tc : TT} {tb : TS} (hc : ST K Cl E tc mc) (hb : SS K Cl E tb mb) (n : Nat) : SS K Cl E (tWhile tc tb) (mWhileN mc mb n) := fun β H σ s st D hr hs h => by
  refine ⟨fun m σ' H' => ∃ β' s' st', HR K Cl β' H' st' ∧ SR K β' H' s' σ' ∧ PoS K Cl E D β' H' (mWhileN mc mb m s' st'), ⟨n, β, s, st, hr, hs, h⟩, ?_⟩
  rintro m σ1 H1 ⟨β1, s1, st1, hr1, hs1, h1⟩
  cases m with
  | zero => exact h1.elim
  | succ m =>
    unfold mWhileN at h1
    refine hc β1 H1 σ1 s1 st1 _ hr1 hs1 (h1.run fun k st2 β2 H2 kv _ e2 hr2 rk h2 => ?_)
    cases rk
    cases k with
    | false =>
      rw [if_neg Bool.false_ne_true] at h2 ⊢
      exact PoS.val h2 hr2 (hs1.ext e2)
    | true =>
      rw [if_pos rfl] at h2 ⊢
      refine ⟨fun σ' H' => ∃ β' s' st', HR K Cl β' H' st' ∧ SR K β' H' s' σ' ∧ PoS K Cl E D β' H' (mWhileN mc mb m s' st'), fun σ' H' q => ⟨m, Nat.lt_succ_self m, q⟩, hb β2 H2 σ1 s1 st2 _ hr2 (hs1.ext e2) ?_⟩
      cases eb : mb s1 st2 with
      | nx s3 st3 => rw [eb] at h2; exact fun β3 H3 σ3 e3 hr3 hs3 => ⟨β3, s3, st3, hr3, hs3, PoS.ext e3 h2⟩
      | ct s3 st3 => rw [eb] at h2; exact fun β3 H3 σ3 e3 hr3 hs3 => ⟨β3, s3, st3, hr3, hs3, PoS.ext e3 h2⟩
      | bk s3 st3 => rw [eb] at h2; exact h2
      | rt w st3 => rw [eb] at h2; exact h2
      | exc c fs st3 => rw [eb] at h2; exact h2
      | stuck => rw [eb] at h2; exact h2
theorem js_while (n : Nat) (hp : PassesOwn (model X.prog X.w) X.A X.env X.xe) (hc : JT X Cl E c mc) (hb : JSs X Cl E body mb) : JS X Cl E (.While c body [] pos) (mWhileN mc mb n) := by
  obtain ⟨_, p1, q1⟩ := hc.ex
  obtain ⟨_, p2, q2⟩ := hb.ex
  exact ⟨_, ps_while hp p1 p2, ss_while q1 q2 n⟩
end

/-! ### what is walked -/
/-- values that stand, or a list of the store of so many items -/
inductive Src where
  | vals (ws : List W) | cell (i n : Nat)
def Src.len : Src → Nat
  | .vals ws => ws.length
  | .cell _ n => n
def Src.at : Src → Nat → Sto → Option W
  | .vals ws, j, _ => ws[j]?
  | .cell i n, j, st => match st[i]? with
    | some (.lst ws) => if ws.length = n then ws[j]? else none
    | _ => none
def Src.fine : Src → Sto → Bool
  | .vals _, _ => true
  | .cell i n, st => match st[i]? with
    | some (.lst ws) => decide (ws.length = n)
    | _ => false
abbrev MI := Slo → Sto → Out Src
/-- the walk J goes over src, from (β0, H0) on -/
structure WalkS (K : PySem.W.Frag) (Cl : Nat → Addr) (β0 : Bt) (H0 : Hp) (J : It) (src : Src) : Prop where
  ex : ∃ G Y, Walk J src.len G Y ∧ (∀ β H st, Ext K β0 H0 β H → HR K Cl β H st → src.fine st = true → G H) ∧
    ∀ i H x H' β st w, Ext K β0 H0 β H → HR K Cl β H st → src.at i st = some w → Y i H x H' → Ext K β H β H' ∧ HR K Cl β H' st ∧ RV K β H' w x
def PoI (K : PySem.W.Frag) (Cl : Nat → Addr) (E : XK) (β : Bt) (H : Hp) (R : It → Hp → Prop) : Out Src → Prop
  | .ok src st => ∀ β' H' J, Ext K β H β' H' → HR K Cl β' H' st → WalkS K Cl β' H' J src → R J H'
  | .exc c fs st => ∀ β' H' d, Ext K β H β' H' → HR K Cl β' H' st → RX K β' H' fs d → E (.ref (Cl c)) d H'
  | .stuck => False
structure JI (X : Cx) (Cl : Nat → Addr) (E : XK) (tg iter : Expr) (m : MI) : Prop where
  ex : ∃ w, PI X tg iter w ∧ ∀ β H σ s st R, HR X.K Cl β H st → SR X.K β H s σ → PoI X.K Cl E β H R (m s st) → w σ H R
@[simp] def mILst (e : ME) : MI := fun s st => (e s st).bind fun x st1 => match x with
  | .lst ws => .ok (.vals ws) st1
  | .xst ws => .ok (.vals ws) st1
  | .ref i => match st1[i]? with
    | some (.lst ws) => .ok (.cell i ws.length) st1
    | _ => .stuck
  | _ => .stuck
@[simp] def mITup (e : ME) : MI := fun s st => (e s st).bind fun x st1 => match x with
  | .tup ws => .ok (.vals ws) st1
  | _ => .stuck
def rngW (lo : Int) (n : Nat) : List W := (List.range n).map fun i => .int (lo + (i : Nat))
/-- the bounds of a range's ends (by natAbs: the kernel does not count them) -/
def rngOk (j : Int) : Bool := decide (j.natAbs < 4611686018427387904)
theorem rngOk_iff {j : Int} (h : rngOk j = true) : -(2 ^ 62) ≤ j ∧ j < 2 ^ 62 := by
  have h2 : j.natAbs < 4611686018427387904 := of_decide_eq_true h
  have e : (2 : Int) ^ 62 = 4611686018427387904 := by decide
  rw [e]
  omega
@[simp] theorem rngOk_eq (j : Int) : (rngOk j = true) = (j.natAbs < 4611686018427387904) := by simp [rngOk]
@[simp] def mIRng1 (a : MA) : MI := fun s st => (a s st).bind fun xs st1 => match xs with
  | [.int j] => if rngOk j = true then .ok (.vals (rngW 0 j.toNat)) st1 else .stuck
  | _ => .stuck
@[simp] def mIRng2 (a : MA) : MI := fun s st => (a s st).bind fun xs st1 => match xs with
  | [.int i, .int j] => if rngOk i = true ∧ rngOk j = true then .ok (.vals (rngW i (j - i).toNat)) st1 else .stuck
  | _ => .stuck
/-- range(i, j, c), c positive -/
@[simp] def mIRng3 (a : MA) : MI := fun s st => (a s st).bind fun xs st1 => match xs with
  | [.int i, .int j, .int c] => if rngOk i = true ∧ rngOk j = true ∧ 0 < c ∧ c < 1073741824 then .ok (.vals ((List.range ((j - i + c - 1) / c).toNat).map fun k => .int (i + (k : Nat) * c))) st1 else .stuck
  | _ => .stuck
@[simp] def mIEnum (a : MA) : MI := fun s st => (a s st).bind fun xs st1 => match xs with
  | [.lst ws] => .ok (.vals ((List.range ws.length).map fun i => .tup [.int (i : Nat), ws.getD i .non])) st1
  | [.xst ws] => .ok (.vals ((List.range ws.length).map fun i => .tup [.int (i : Nat), ws.getD i .non])) st1
  | _ => .stuck
section
variable {X : Cx} {Cl : Nat → Addr} {E : XK} {pos p : Pos} {ma : ME} {mr : MA} {tg e a b c : Expr}
theorem Out.bindI {K : PySem.W.Frag} {β : Bt} {H : Hp} {α ω : Type} {R1 : Bt → Hp → α → ω → Prop} {R : It → Hp → Prop} {Q1 : ω → Hp → Prop} {o : Out α} {f : α → Sto → Out Src} (h : PoI K Cl E β H R (o.bind f))
    (k : ∀ a st1 β1 H1 v, o = .ok a st1 → Ext K β H β1 H1 → HR K Cl β1 H1 st1 → R1 β1 H1 a v → PoI K Cl E β1 H1 R (f a st1) → Q1 v H1) : PoG K Cl R1 E β H Q1 o := by
  cases o with
  | ok a st =>
    refine fun β1 H1 v e hr r => k a st β1 H1 v rfl e hr r ?_
    have h' : PoI K Cl E β H R (f a st) := h
    cases ef : f a st with
    | ok src st2 => rw [ef] at h'; exact fun β2 H2 J e2 hr2 w => h' β2 H2 J (e.trans e2) hr2 w
    | exc c fs st2 => rw [ef] at h'; exact fun β2 H2 d e2 hr2 w => h' β2 H2 d (e.trans e2) hr2 w
    | stuck => rw [ef] at h'; exact h'
  | exc c fs st => exact h
  | stuck => exact h
theorem walkS_list {K : PySem.W.Frag} {β : Bt} {H : Hp} {p : Addr} {ws : List W} {vs : List V} (hl : ∀ β' H', Ext K β H β' H' → SqL K H' p vs) (r : RVs K β H ws vs) : WalkS K Cl β H (Itl K p) (.vals ws) := by
  refine ⟨_, _, (show Walk (Itl K p) ws.length _ _ from by rw [r.length]; exact walk_list (xs := vs)), fun β' H' st e hr _ => hl β' H' e, fun i H1 x H2 β1 st w e hr hw y => ?_⟩
  obtain ⟨rfl, hx⟩ := y
  obtain ⟨v, hv, rv⟩ := r.get (show ws[i]? = some w from hw)
  rw [hx] at hv
  cases hv
  exact ⟨Ext.refl _ _ _, hr, rv.ext e⟩
theorem walkS_tup {K : PySem.W.Frag} {β : Bt} {H : Hp} {p : Addr} {ws : List W} {vs : List V} (hl : SqT K H p vs) (r : RVs K β H ws vs) : WalkS K Cl β H (Itt K p) (.vals ws) := by
  refine ⟨_, _, (show Walk (Itt K p) ws.length _ _ from by rw [r.length]; exact walk_tup (xs := vs)), fun β' H' st e hr _ => e.tup _ _ hl, fun i H1 x H2 β1 st w e hr hw y => ?_⟩
  obtain ⟨rfl, hx⟩ := y
  obtain ⟨v, hv, rv⟩ := r.get (show ws[i]? = some w from hw)
  rw [hx] at hv
  cases hv
  exact ⟨Ext.refl _ _ _, hr, rv.ext e⟩
theorem HR.stay {K : PySem.W.Frag} {β β' : Bt} {H H' : Hp} {st : Sto} {i : Nat} {a : Addr} {ob : Ob} (e : Ext K β H β' H') (hr : HR K Cl β' H' st) (hb : β.l[i]? = some (some a)) (hs : st[i]? = some ob) (hd : ob ≠ .dead) : β'.l[i]? = some (some a) := by
  rcases e.live _ _ hb with q | q
  · exact q
  · rw [hr.dead i q] at hs
    exact absurd (Option.some.inj hs).symm hd
theorem walkS_cell {K : PySem.W.Frag} {β : Bt} {H : Hp} {i n : Nat} {a : Addr} (hb : β.l[i]? = some (some a)) : WalkS K Cl β H (Itl K a) (.cell i n) := by
  refine ⟨fun H' => ∃ vs, SqL K H' a vs ∧ vs.length = n, fun j H1 x H2 => H2 = H1 ∧ ∀ xs, SqL K H1 a xs → xs[j]? = some x, ⟨fun j H1 hj ⟨vs, hq, hl⟩ => ⟨vs, vs[j]'(by rw [hl]; exact hj), hq, by simp [hl, show j < n from hj]⟩, fun H1 ⟨vs, hq, hl⟩ => ⟨vs, hq, by rw [hl]; exact Nat.le_refl _⟩, fun j H1 x H2 hj _ y => y⟩, fun β' H' st e hr hf => ?_, fun j H1 x H2 β1 st w e hr hw y => ?_⟩
  · unfold Src.fine at hf
    simp only at hf
    split at hf
    · rename_i ws es
      have hb' := hr.stay e hb es (by intro z; cases z)
      obtain ⟨vs, hv, hrs⟩ := hr.ob i a _ hb' es
      exact ⟨vs, SqL.of hv, by rw [← hrs.length]; exact of_decide_eq_true hf⟩
    · cases hf
  · obtain ⟨rfl, hx⟩ := y
    unfold Src.at at hw
    simp only at hw
    split at hw
    · rename_i ws es
      split at hw
      · have hb' := hr.stay e hb es (by intro z; cases z)
        obtain ⟨vs, hv, hrs⟩ := hr.ob i a _ hb' es
        obtain ⟨v, hv', rv⟩ := hrs.get hw
        rw [hx vs (SqL.of hv)] at hv'
        cases hv'
        exact ⟨Ext.refl _ _ _, hr, rv⟩
      · cases hw
    · cases hw
theorem ji_lst (h : JE X Cl E e ma) : JI X Cl E tg e (mILst ma) := by
  obtain ⟨t, p, q⟩ := h.ex
  refine ⟨_, pi_list p, fun β H σ s st R hr hs h => q β H σ s st _ hr hs (Out.bindI h fun x st1 β1 H1 v _ e1 hr1 rx h1 => ?_)⟩
  cases x with
  | lst ws =>
    cases rx with
    | lst hv hn r1 => exact ⟨_, rfl, ⟨_, SqL.of hv⟩, h1 β1 H1 _ (Ext.refl _ _ _) hr1 (walkS_list (fun β' H' e => SqL.of (e.lst _ _ hv hn).1) r1)⟩
  | xst ws =>
    cases rx with
    | xst hv r1 => exact ⟨_, rfl, ⟨_, KL.sq hv⟩, h1 β1 H1 _ (Ext.refl _ _ _) hr1 (walkS_list (fun β' H' e => KL.sq (hv.imp (fun x => x) fun ⟨o, x⟩ => ⟨o, e.frz _ _ _ x⟩)) r1)⟩
  | ref i =>
    simp only at h1
    split at h1
    · rename_i ws es
      obtain ⟨a, rfl, hb, vs, hv, hrs⟩ := rx.atRef hr1 es (by intro z; cases z)
      exact ⟨a, rfl, ⟨vs, SqL.of hv⟩, h1 β1 H1 _ (Ext.refl _ _ _) hr1 (walkS_cell hb)⟩
    · exact h1.elim
  | _ => exact h1.elim
theorem ji_tup (h : JE X Cl E e ma) : JI X Cl E tg e (mITup ma) := by
  obtain ⟨t, p, q⟩ := h.ex
  refine ⟨_, pi_tup p, fun β H σ s st R hr hs h => q β H σ s st _ hr hs (Out.bindI h fun x st1 β1 H1 v _ e1 hr1 rx h1 => ?_)⟩
  cases x with
  | tup ws =>
    cases rx with
    | tup hv r1 => exact ⟨_, rfl, ⟨_, hv⟩, h1 β1 H1 _ (Ext.refl _ _ _) hr1 (walkS_tup hv r1)⟩
  | _ => exact h1.elim
theorem walkS_rng {K : PySem.W.Frag} {β : Bt} {H : Hp} {lo : Int} {n : Nat} : WalkS K Cl β H (Itr lo n) (.vals (rngW lo n)) := by
  refine ⟨_, _, (show Walk (Itr lo n) (rngW lo n).length _ _ from by rw [show (rngW lo n).length = n by simp [rngW]]; exact walk_range), fun β' H' st e hr _ => trivial, fun i H1 x H2 β1 st w e hr hw y => ?_⟩
  obtain ⟨rfl, rfl⟩ := y
  have hw' : (rngW lo n)[i]? = some w := hw
  unfold rngW at hw'
  rw [List.getElem?_map] at hw'
  by_cases hi : i < n
  · rw [List.getElem?_range hi] at hw'
    cases hw'
    exact ⟨Ext.refl _ _ _, hr, .int _⟩
  · rw [List.getElem?_eq_none (by simp; omega)] at hw'
    cases hw'
theorem walkS_rngC {K : PySem.W.Frag} {β : Bt} {H : Hp} {lo c : Int} {n : Nat} : WalkS K Cl β H (Itc lo c n) (.vals ((List.range n).map fun k => .int (lo + (k : Nat) * c))) := by
  refine ⟨_, _, (show Walk (Itc lo c n) ((List.range n).map fun k => W.int (lo + (k : Nat) * c)).length _ _ from by rw [show ((List.range n).map fun k => W.int (lo + (k : Nat) * c)).length = n by simp]; exact walk_rangeC), fun β' H' st e hr _ => trivial, fun i H1 x H2 β1 st w e hr hw y => ?_⟩
  obtain ⟨rfl, rfl⟩ := y
  have hw' : ((List.range n).map fun k => W.int (lo + (k : Nat) * c))[i]? = some w := hw
  rw [List.getElem?_map] at hw'
  by_cases hi : i < n
  · rw [List.getElem?_range hi] at hw'
    cases hw'
    exact ⟨Ext.refl _ _ _, hr, .int _⟩
  · rw [List.getElem?_eq_none (by simp; omega)] at hw'
    cases hw'
theorem ji_rng1 (hm : X.mg "range" = none) (ha : JA X Cl E [a] mr) (hg : Gl X "range" := by rfl) (hs : starEach [a] X.env = [(false, eval a X.env)] := by rfl) : JI X Cl E tg (.Call (.Name "range" p) [a] [] pos) (mIRng1 mr) := by
  obtain ⟨t, pr, q⟩ := ha.ex
  refine ⟨_, pi_range1 hg hm pr hs, fun β H σ s st R hr hs h => q β H σ s st _ hr hs (Out.bindI h fun x st1 β1 H1 v _ e1 hr1 rx h1 => ?_)⟩
  split at h1
  · split at h1
    · rename_i hz
      obtain ⟨u, rfl, ru⟩ := rx.one
      cases ru
      exact ⟨_, rfl, (rngOk_iff hz).1, (rngOk_iff hz).2, h1 β1 H1 _ (Ext.refl _ _ _) hr1 walkS_rng⟩
    · exact h1.elim
  · exact h1.elim
theorem ji_rng2 (hm : X.mg "range" = none) (ha : JA X Cl E [a, b] mr) (hg : Gl X "range" := by rfl) (hs : starEach [a, b] X.env = [(false, eval a X.env), (false, eval b X.env)] := by rfl) (hs2 : starEach [b] X.env = [(false, eval b X.env)] := by rfl) : JI X Cl E tg (.Call (.Name "range" p) [a, b] [] pos) (mIRng2 mr) := by
  obtain ⟨t, pr, q⟩ := ha.ex
  refine ⟨_, pi_range2 hg hm pr hs hs2, fun β H σ s st R hr hs h => q β H σ s st _ hr hs (Out.bindI h fun x st1 β1 H1 v _ e1 hr1 rx h1 => ?_)⟩
  split at h1
  · split at h1
    · rename_i hz
      obtain ⟨u, w, rfl, ru, rw'⟩ := rx.two
      cases ru; cases rw'
      exact ⟨_, _, rfl, ⟨(rngOk_iff hz.1).1, (rngOk_iff hz.1).2, (rngOk_iff hz.2).1, (rngOk_iff hz.2).2⟩, h1 β1 H1 _ (Ext.refl _ _ _) hr1 walkS_rng⟩
    · exact h1.elim
  · exact h1.elim
end

/-! ### for -/
def mLoop (src : Src) (g : MG) (body : MS) : Nat → Nat → MS
  | 0, _ => fun s st => if src.fine st = true then .nx s st else .stuck
  | k + 1, i => fun s st => if src.fine st = true then match src.at i st with
      | some w => match g w s st with
        | some (s1, st1) => match body s1 st1 with
          | .nx s2 st2 => mLoop src g body k (i + 1) s2 st2
          | .ct s2 st2 => mLoop src g body k (i + 1) s2 st2
          | .bk s2 st2 => .nx s2 st2
          | o => o
        | none => .stuck
      | none => .stuck
    else .stuck
@[simp] def mFor (it : MI) (g : MG) (body : MS) : MS := fun s st => (it s st).run fun src st1 => mLoop src g body src.len 0 s st1
section
variable {X : Cx} {Cl : Nat → Addr} {E : XK} {pos : Pos} {mi : MI} {mg : MG} {mb : MS} {tg iter : Expr} {body : List Stmt}
theorem js_for (hp : PassesOwn (model X.prog X.w) X.A X.env X.xe) (hc : X.calm = true) (hi : JI X Cl E tg iter mi) (hg : JG X Cl tg mg) (hb : JSs X Cl E body mb) (hs : ∀ x, foldedSetIterable iter X.env x = pure x := by intro _; rfl) : JS X Cl E (.For tg iter body [] pos) (mFor mi mg mb) := by
  obtain ⟨_, p1, q1⟩ := hi.ex
  obtain ⟨_, p2, q2⟩ := hg.ex
  obtain ⟨_, p3, q3⟩ := hb.ex
  refine ⟨_, ps_for hp hc p1 p2 p3 hs, fun β H σ s st D hr hs h => q1 β H σ s st _ hr hs ?_⟩
  unfold mFor at h
  cases ei : mi s st with
  | stuck => rw [ei] at h; exact h
  | exc c fs st1 => rw [ei] at h; exact h
  | ok src st1 =>
    rw [ei] at h
    intro β1 H1 J e1 hr1 w
    have h1 : PoS X.K Cl E D β1 H1 (mLoop src mg mb src.len 0 s st1) := PoS.ext e1 h
    obtain ⟨G, Y, wk, hG, hY⟩ := w.ex
    have fine : ∀ k i s st, PoS X.K Cl E D β1 H1 (mLoop src mg mb k i s st) → src.fine st = true := fun k i s st hh => by
      cases k with
      | zero => unfold mLoop at hh; split at hh; assumption; exact hh.elim
      | succ k => unfold mLoop at hh; split at hh; assumption; exact hh.elim
    refine for_it wk (fun i σ' H' => ∃ β' s' st', Ext X.K β1 H1 β' H' ∧ HR X.K Cl β' H' st' ∧ SR X.K β' H' s' σ' ∧ src.fine st' = true ∧ PoS X.K Cl E D β' H' (mLoop src mg mb (src.len - i) i s' st')) ⟨β1, s, st1, Ext.refl _ _ _, hr1, hs.ext e1, fine _ _ _ _ h1, by rw [Nat.sub_zero]; exact h1⟩ (fun i σ' H' hi ⟨β', s', st', e', hr', hs', hf, h'⟩ => hG β' H' st' e' hr' hf) (fun i x σ' H' H2 hi ⟨β', s', st', e', hr', hs', hf, h'⟩ y => ?_) (fun σ' H' ⟨β', s', st', e', hr', hs', hf, h'⟩ => ?_)
    · obtain ⟨k, hk⟩ : ∃ k, src.len - i = k + 1 := ⟨src.len - i - 1, by omega⟩
      rw [hk] at h'
      unfold mLoop at h'
      rw [if_pos hf] at h'
      split at h'
      · rename_i w ew
        obtain ⟨e2, hr2, rw2⟩ := hY i H' x H2 β' st' w e' hr' ew y
        refine q2 β' H2 σ' s' st' w x _ hr2 (hs'.ext e2) rw2 ?_
        split at h'
        · rename_i s3 st3 eg
          rw [eg]
          intro β3 H3 σ3 e3 hr3 hs3
          refine q3 β3 H3 σ3 s3 st3 _ hr3 hs3 ?_
          have e23 := e2.trans e3
          have nxt : ∀ s4 st4, PoS X.K Cl E D β' H' (mLoop src mg mb k (i + 1) s4 st4) → ∀ β4 H4 σ4, Ext X.K β3 H3 β4 H4 → HR X.K Cl β4 H4 st4 → SR X.K β4 H4 s4 σ4 → ∃ β' s' st', Ext X.K β1 H1 β' H4 ∧ HR X.K Cl β' H4 st' ∧ SR X.K β' H4 s' σ4 ∧ src.fine st' = true ∧ PoS X.K Cl E D β' H4 (mLoop src mg mb (src.len - (i + 1)) (i + 1) s' st') := fun s4 st4 h4 β4 H4 σ4 e4 hr4 hs4 => by
            have hk' : src.len - (i + 1) = k := by omega
            refine ⟨β4, s4, st4, e'.trans (e23.trans e4), hr4, hs4, ?_, by rw [hk']; exact PoS.ext (e23.trans e4) h4⟩
            cases k with
            | zero => unfold mLoop at h4; split at h4; assumption; exact h4.elim
            | succ k => unfold mLoop at h4; split at h4; assumption; exact h4.elim
          cases eb : mb s3 st3 with
          | nx s4 st4 => rw [eb] at h'; exact nxt s4 st4 h'
          | ct s4 st4 => rw [eb] at h'; exact nxt s4 st4 h'
          | bk s4 st4 => rw [eb] at h'; exact PoS.ext e23 h'
          | rt w4 st4 => rw [eb] at h'; exact PoS.ext e23 h'
          | exc c4 fs4 st4 => rw [eb] at h'; exact PoS.ext e23 h'
          | stuck => rw [eb] at h'; exact h'
        · exact h'.elim
      · exact h'.elim
    · rw [Nat.sub_self] at h'
      unfold mLoop at h'
      rw [if_pos hf] at h'
      exact PoS.val h' hr' hs'
end
end Mi
/-! The mirror layer, part F: comprehensions, defs and their calls, methods, new instances, the law's end. -/
namespace Mi
open PySem L2 PyProof.Rows

/-! ### one reading for each mirror -/
def tM (K : PySem.W.Frag) (Cl : Nat → Addr) (E : XK) (m : ME) : TE := fun σ H Q => ∃ β s st, HR K Cl β H st ∧ SR K β H s σ ∧ Po K Cl E β H Q (m s st)
def tMT (K : PySem.W.Frag) (Cl : Nat → Addr) (E : XK) (m : MT) : TT := fun σ H Q => ∃ β s st, HR K Cl β H st ∧ SR K β H s σ ∧ PoB K Cl E β H Q (m s st)
section
variable {X : Cx} {Cl : Nat → Addr} {E : XK} {e : Expr} {m : ME} {mt : MT}
theorem JE.pe (h : JE X Cl E e m) : PE X e (tM X.K Cl E m) := by
  obtain ⟨t, p, q⟩ := h.ex
  exact ⟨fun pins s σ H Q I ⟨β, sl, st, hr, hs, hp⟩ => p.run pins s σ H Q I (q β H σ sl st Q hr hs hp)⟩
theorem JT.pt (h : JT X Cl E e mt) : PT X e (tMT X.K Cl E mt) := by
  obtain ⟨t, p, q⟩ := h.ex
  exact ⟨fun pins s σ H Q I ⟨β, sl, st, hr, hs, hp⟩ => p.run pins s σ H Q I (q β H σ sl st Q hr hs hp)⟩
theorem se_m {K : PySem.W.Frag} : SE K Cl E (tM K Cl E m) m := fun β H σ s st Q hr hs h => ⟨β, s, st, hr, hs, h⟩
theorem st_m {K : PySem.W.Frag} : ST K Cl E (tMT K Cl E mt) mt := fun β H σ s st Q hr hs h => ⟨β, s, st, hr, hs, h⟩
end

/-! ### targets within a comprehension: they change its own names alone -/
theorem wipe_at {σ : L2.St} {j : Nat} : ∀ {vs : List Nat}, (wipe σ vs)[j]? = if j ∈ vs ∧ j < σ.length then some none else σ[j]?
  | [] => by simp [wipe]
  | v :: vs => by
    unfold wipe
    have ih := wipe_at (σ := σ) (j := j) (vs := vs)
    by_cases h : v = j
    · subst h
      by_cases hl : v < σ.length
      · rw [List.getElem?_set_self (by rw [wipe_length]; exact hl), if_pos ⟨List.mem_cons_self, hl⟩]
      · rw [List.getElem?_eq_none (by rw [List.length_set, wipe_length]; omega), if_neg (fun z => hl z.2), List.getElem?_eq_none (by omega)]
    · rw [List.getElem?_set_ne h, ih]
      by_cases hm : j ∈ vs ∧ j < σ.length
      · rw [if_pos hm, if_pos ⟨List.mem_cons_of_mem _ hm.1, hm.2⟩]
      · rw [if_neg hm, if_neg]
        rintro ⟨h1, h2⟩
        rcases List.mem_cons.mp h1 with z | z
        · exact h z.symm
        · exact hm ⟨z, h2⟩
theorem wipe_set {σ : L2.St} {i : Nat} {x : Option V} {vs : List Nat} (hi : i ∈ vs) : wipe (σ.set i x) vs = wipe σ vs := by
  apply List.ext_getElem?
  intro j
  rw [wipe_at, wipe_at, List.length_set]
  by_cases hm : j ∈ vs ∧ j < σ.length
  · rw [if_pos hm, if_pos hm]
  · rw [if_neg hm, if_neg hm]
    by_cases e : i = j
    · subst e
      have hl : ¬ i < σ.length := fun z => hm ⟨hi, z⟩
      rw [List.getElem?_eq_none (by rw [List.length_set]; omega), List.getElem?_eq_none (by omega)]
    · rw [List.getElem?_set_ne e]
def wipeW (s : Slo) : List Nat → Slo
  | [] => s
  | v :: vs => (wipeW s vs).set v none
def PoW (K : PySem.W.Frag) (Cl : Nat → Addr) (vs : List Nat) (σ : L2.St) (Q : L2.St → Hp → Prop) (β : Bt) (H : Hp) : Option (Slo × Sto) → Prop
  | some (s, st) => ∀ β' H' σ', wipe σ' vs = wipe σ vs → Ext K β H β' H' → HR K Cl β' H' st → SR K β' H' s σ' → Q σ' H'
  | none => False
theorem PoW.ext {K : PySem.W.Frag} {Cl : Nat → Addr} {vs : List Nat} {σ : L2.St} {Q : L2.St → Hp → Prop} {β β' : Bt} {H H' : Hp} {o : Option (Slo × Sto)} (e : Ext K β H β' H') (h : PoW K Cl vs σ Q β H o) : PoW K Cl vs σ Q β' H' o := by
  cases o with
  | some p => exact fun β2 H2 σ2 w e2 hr hs => h β2 H2 σ2 w (e.trans e2) hr hs
  | none => exact h
def SGW (K : PySem.W.Frag) (Cl : Nat → Addr) (vs : List Nat) (g : TG) (m : MG) : Prop := ∀ β H σ s st w v Q, HR K Cl β H st → SR K β H s σ → RV K β H w v → PoW K Cl vs σ Q β H (m w s st) → g v σ H Q
def SGsW (K : PySem.W.Frag) (Cl : Nat → Addr) (vs : List Nat) (g : TGs) (m : MGs) : Prop := ∀ β H σ s st ws us Q, HR K Cl β H st → SR K β H s σ → RVs K β H ws us → PoW K Cl vs σ Q β H (m ws s st) → g us σ H Q
/-- names of a comprehension's target, told as readings -/
inductive NT where
  | nm (i : Nat) | tp (ns : List NT)
mutual
def NT.g (K : PySem.W.Frag) : NT → TG
  | .nm i => gName i
  | .tp ns => gTup K ns.length (NT.gs K ns)
def NT.gs (K : PySem.W.Frag) : List NT → TGs
  | [] => gNil
  | n :: ns => gCons (NT.g K n) (NT.gs K ns)
end
mutual
def NT.m : NT → MG
  | .nm i => mGN i
  | .tp ns => mGTup ns.length (NT.ms ns)
def NT.ms : List NT → MGs
  | [] => mGNil
  | n :: ns => mGCons (NT.m n) (NT.ms ns)
end
mutual
def NT.within (vs : List Nat) : NT → Bool
  | .nm i => vs.contains i
  | .tp ns => NT.withins vs ns
def NT.withins (vs : List Nat) : List NT → Bool
  | [] => true
  | n :: ns => NT.within vs n && NT.withins vs ns
end
mutual
theorem NT.ok {K : PySem.W.Frag} {Cl : Nat → Addr} {vs : List Nat} : ∀ n : NT, NT.within vs n = true → SGW K Cl vs (NT.g K n) (NT.m n)
  | .nm i, hw => fun β H σ s st w v Q hr hs rw h => by
    simp only [NT.within] at hw
    exact h β H _ (wipe_set (List.contains_iff_mem.mp hw)) (Ext.refl _ _ _) hr (hs.set rw)
  | .tp ns, hw => fun β H σ s st w v Q hr hs rw h => by
    simp only [NT.within] at hw
    simp only [NT.m, mGTup] at h
    simp only [NT.g]
    split at h
    · split at h
      · rename_i hl
        cases rw with
        | tup h1 r1 => exact ⟨_, _, rfl, h1, by rw [← r1.length]; exact hl, NT.oks ns hw β H σ s st _ _ Q hr hs r1 h⟩
      · exact h.elim
    · exact h.elim
theorem NT.oks {K : PySem.W.Frag} {Cl : Nat → Addr} {vs : List Nat} : ∀ ns : List NT, NT.withins vs ns = true → SGsW K Cl vs (NT.gs K ns) (NT.ms ns)
  | [], hw => fun β H σ s st ws us Q hr hs rw h => by
    simp only [NT.ms, mGNil] at h
    simp only [NT.gs]
    split at h
    · cases rw
      exact ⟨rfl, h β H σ rfl (Ext.refl _ _ _) hr hs⟩
    · exact h.elim
  | n :: ns, hw => fun β H σ s st ws us Q hr hs rw h => by
    simp only [NT.withins, Bool.and_eq_true] at hw
    simp only [NT.ms, mGCons] at h
    simp only [NT.gs]
    split at h
    · cases rw with
      | cons r1 r2 =>
        refine ⟨_, _, rfl, NT.ok n hw.1 β H σ s st _ _ _ hr hs r1 ?_⟩
        split at h
        · rename_i s1 st1 e
          rw [e]
          exact fun β1 H1 σ1 w1 e1 hr1 hs1 => NT.oks ns hw.2 β1 H1 σ1 s1 st1 _ _ Q hr1 hs1 (r2.ext e1) (by
            have h' := PoW.ext e1 h
            revert h'
            unfold PoW
            split
            · exact fun h' β2 H2 σ2 w2 e2 hr2 hs2 => h' β2 H2 σ2 (w2.trans w1) e2 hr2 hs2
            · exact fun z => z)
        · exact h.elim
    · exact h.elim
end
/-- the target is read as n -/
structure JN (X : Cx) (tg : Expr) (n : NT) : Prop where
  pg : PG X tg (NT.g X.K n)
structure JNs (X : Cx) (tgs : List Expr) (ns : List NT) : Prop where
  pg : PGs X tgs (NT.gs X.K ns)
  len : tgs.length = ns.length
theorem jn_nm {X : Cx} {pos : Pos} (i : Nat) {x : Str} (hN : X.N.Nodup) (hi : X.N[i]? = some x := by rfl) (hx : Loc X.env.scope x := by first | exact .inl rfl | exact .inr rfl) (hf : X.fn x = true ∨ X.env.scope.names.lookup x = some .local := by first | exact .inl rfl | exact .inr rfl) : JN X (.Name x pos) (.nm i) := ⟨pg_name hN hi hx hf⟩
theorem jns_nil {X : Cx} : JNs X [] [] := ⟨pgs_nil, rfl⟩
theorem jns_cons {X : Cx} {t : Expr} {ts : List Expr} {n : NT} {ns : List NT} (h1 : JN X t n) (h2 : JNs X ts ns) (hs : (assignEach (t :: ts) X.env).map (·.2) = assign t X.env :: (assignEach ts X.env).map (·.2) := by rfl) : JNs X (t :: ts) (n :: ns) := ⟨pgs_cons h1.pg h2.pg hs, by rw [List.length_cons, List.length_cons, h2.len]⟩
theorem jn_tp {X : Cx} {ts : List Expr} {ns : List NT} {k : Nat} {pos : Pos} (hc : X.calm = true) (h : JNs X ts ns) (hn : (assignEach ts X.env).length = ns.length := by rfl) (hst : (assignEach ts X.env).findIdx? (·.1) = none := by rfl) : JN X (.Tuple ts k pos) (.tp ns) := ⟨pg_tup hc h.pg hn hst⟩

/-! ### list comprehensions -/
def mLcLoop (src : Src) (g : MG) (t : MT) (e : ME) (s : Slo) : Nat → Nat → List W → Sto → Out (List W)
  | 0, _, acc, st => if src.fine st = true then .ok acc st else .stuck
  | k + 1, i, acc, st => if src.fine st = true then match src.at i st with
      | some w => match g w s st with
        | some (s2, st1) => match t s2 st1 with
          | .ok true st2 => match e s2 st2 with
            | .ok y st3 => if acc.length < sizeLine then mLcLoop src g t e s k (i + 1) (acc ++ [y]) st3 else .stuck
            | _ => .stuck
          | .ok false st2 => mLcLoop src g t e s k (i + 1) acc st2
          | _ => .stuck
        | none => .stuck
      | none => .stuck
    else .stuck
@[simp] def mLc (it : MI) (n : NT) (t : MT) (e : ME) (vs : List Nat) : ME := fun s st => (it s st).bind fun src st1 => (mLcLoop src (NT.m n) t e (wipeW s vs) src.len 0 [] st1).bind fun ws st2 => .ok (.lst ws) st2
/-- the same, the list an object of the store -/
@[simp] def mLcS (it : MI) (n : NT) (t : MT) (e : ME) (vs : List Nat) : ME := fun s st => (it s st).bind fun src st1 => (mLcLoop src (NT.m n) t e (wipeW s vs) src.len 0 [] st1).bind fun ws st2 => .ok (.ref st2.length) (st2 ++ [.lst ws])
@[simp] def mYes : MT := fun _ st => .ok true st
structure JTs (X : Cx) (Cl : Nat → Addr) (E : XK) (cs : List Expr) (m : MT) : Prop where
  ex : PTs X cs (tMT X.K Cl E m)
section
variable {X : Cx} {Cl : Nat → Addr} {E : XK}
theorem jts_nil : JTs X Cl E [] mYes := ⟨⟨fun pins s σ H Q I ⟨β, sl, st, hr, hs, hp⟩ => pts_nil.run pins s σ H Q I (PoG.val hp hr rfl)⟩⟩
theorem jts_one {c : Expr} {m : MT} (h : JT X Cl E c m) : JTs X Cl E [c] m := ⟨pts_one h.pt⟩
theorem SR.wipe {K : PySem.W.Frag} {β : Bt} {H : Hp} {s : Slo} {σ : L2.St} (h : SR K β H s σ) : ∀ vs : List Nat, SR K β H (wipeW s vs) (L2.wipe σ vs)
  | [] => h
  | v :: vs => by
    have ih := SR.wipe h vs
    refine ⟨by show ((wipeW s vs).set v none).length = ((L2.wipe σ vs).set v none).length; rw [List.length_set, List.length_set, ih.1], fun i w hi => ?_⟩
    have hi : ((wipeW s vs).set v none)[i]? = some (some w) := hi
    show ∃ x, ((L2.wipe σ vs).set v none)[i]? = some (some x) ∧ RV K β H w x
    by_cases e : v = i
    · subst e
      by_cases hl : v < (wipeW s vs).length
      · rw [List.getElem?_set_self hl] at hi; cases hi
      · rw [List.getElem?_eq_none (by rw [List.length_set]; omega)] at hi; cases hi
    · rw [List.getElem?_set_ne e] at hi ⊢
      exact ih.2 i w hi
theorem PoW.E0 {K : PySem.W.Frag} {α ω : Type} {R : Bt → Hp → α → ω → Prop} {β : Bt} {H : Hp} {Q : ω → Hp → Prop} {o : Out α} (h : PoG K Cl R E β H Q o) (hx : ∀ c fs st, o ≠ .exc c fs st) : PoG K Cl R E0 β H Q o := by
  cases o with
  | ok a st => exact h
  | exc c fs st => exact absurd rfl (hx c fs st)
  | stuck => exact h
theorem se_lcG {K : PySem.W.Frag} {wi : TI} {mi : MI} {n : NT} {mt : MT} {me : ME} {vs : List Nat} (kk : List W → Sto → Out W) (hw : NT.within vs n = true) (hi : ∀ β H σ s st R, HR K Cl β H st → SR K β H s σ → PoI K Cl E β H R (mi s st) → wi σ H R)
    (hk : ∀ (β1 : Bt) (H1 : Hp) (st1 : Sto) (β' : Bt) (H' : Hp) (D : Addr) (acs : List V) (ws : List W) (st' : Sto) (Q : VK), HR K Cl β1 H1 st1 → Ext K β1 H1 β' H' → HR K Cl β' H' st' → D ∈ β'.pr → H' D = some (.lst acs) → RVs K β' H' ws acs → H1 D = none → PoG K Cl (RV K) E β1 H1 Q (kk ws st') → Q (.ref D) H') :
    SE K Cl E (tLc wi (NT.g K n) (tMT K Cl E0 mt) (tM K Cl E0 me) vs) (fun s st => (mi s st).bind fun src st1 => (mLcLoop src (NT.m n) mt me (wipeW s vs) src.len 0 [] st1).bind kk) := fun β H σ s st Q hr hs h => by
  refine hi β H σ s st _ hr hs ?_
  simp only at h
  cases ei : mi s st with
  | stuck => rw [ei] at h; exact h
  | exc c fs st1 => rw [ei] at h; exact h
  | ok src st1 =>
    rw [ei] at h
    intro β1 H1 J e1 hr1 w D hD
    obtain ⟨G, Y, wk, hG, hY⟩ := w.ex
    have eg : Ext K β1 H1 (β1.guard D) (upd H1 D (.lst [])) := Ext.guard hD
    have hrg : HR K Cl (β1.guard D) (upd H1 D (.lst [])) st1 := hr1.guard hD
    have hws : SR K β1 H1 (wipeW s vs) (wipe σ vs) := (hs.ext e1).wipe vs
    have h1 : PoG K Cl (RV K) E β1 H1 Q ((mLcLoop src (NT.m n) mt me (wipeW s vs) src.len 0 [] st1).bind kk) := PoG.ext e1 h
    have fine : ∀ k i acc st, (∃ ws st2, mLcLoop src (NT.m n) mt me (wipeW s vs) k i acc st = .ok ws st2) → src.fine st = true := fun k i acc st hh => by
      obtain ⟨ws, st2, hh⟩ := hh
      cases k with
      | zero => unfold mLcLoop at hh; split at hh; assumption; cases hh
      | succ k => unfold mLcLoop at hh; split at hh; assumption; cases hh
    -- the loop comes to an end
    have noexc : ∀ k i acc st c fs st2, mLcLoop src (NT.m n) mt me (wipeW s vs) k i acc st ≠ .exc c fs st2 := fun k => by
      induction k with
      | zero => intro i acc st c fs st2 z; unfold mLcLoop at z; split at z <;> cases z
      | succ k ih =>
        intro i acc st c fs st2 z
        unfold mLcLoop at z
        split at z
        · split at z
          · split at z
            · split at z
              · split at z
                · split at z
                  · exact ih _ _ _ _ _ _ z
                  · cases z
                · cases z
              · exact ih _ _ _ _ _ _ z
              · cases z
            · cases z
          · cases z
        · cases z
    obtain ⟨rs, stE, he⟩ : ∃ rs stE, mLcLoop src (NT.m n) mt me (wipeW s vs) src.len 0 [] st1 = .ok rs stE := by
      cases eo : mLcLoop src (NT.m n) mt me (wipeW s vs) src.len 0 [] st1 with
      | ok a b => exact ⟨a, b, rfl⟩
      | exc c fs st2 => exact absurd eo (noexc _ _ _ _ _ _ _)
      | stuck => rw [eo] at h1; exact h1.elim
    rw [he] at h1
    have hQ : PoG K Cl (RV K) E β1 H1 Q (kk rs stE) := h1
    refine lc_it wk (fun i H' => ∃ β' acc as st', Ext K β1 H1 β' H' ∧ HR K Cl β' H' st' ∧ D ∈ β'.pr ∧ H' D = some (.lst as) ∧ RVs K β' H' acc as ∧ src.fine st' = true ∧ mLcLoop src (NT.m n) mt me (wipeW s vs) (src.len - i) i acc st' = .ok rs stE)
      ⟨β1.guard D, [], [], st1, eg, hrg, List.mem_cons_self, upd_same, .nil, fine _ _ _ _ ⟨_, _, he⟩, by rw [Nat.sub_zero]; exact he⟩ (fun i H' hi ⟨β', acc, as, st', e', hr', hp', hd', ra, hf, h'⟩ => hG β' H' st' e' hr' hf) (fun i x H' H2 hi ⟨β', acc, as, st', e', hr', hp', hd', ra, hf, h'⟩ y => ?_) (fun H' ⟨β', acc, as, st', e', hr', hp', hd', ra, hf, h'⟩ => ?_)
    · obtain ⟨k, hk⟩ : ∃ k, src.len - i = k + 1 := ⟨src.len - i - 1, by omega⟩
      have hk' : src.len - (i + 1) = k := by omega
      rw [hk] at h'
      unfold mLcLoop at h'
      rw [if_pos hf] at h'
      split at h'
      · rename_i w ew
        obtain ⟨e2, hr2, rw2⟩ := hY i H' x H2 β' st' w e' hr' ew y
        refine NT.ok n hw β' H2 (wipe σ vs) (wipeW s vs) st' w x _ hr2 (hws.ext (e'.trans e2)) rw2 ?_
        split at h'
        · rename_i s3 st3 eg'
          rw [eg']
          intro β3 H3 σ3 w3 e3 hr3 hs3
          refine ⟨by rw [w3]; exact wipe_idem, β3, s3, st3, hr3, hs3, ?_⟩
          have keepD : ∀ {β4 : Bt} {H4 : Hp}, Ext K β' H' β4 H4 → D ∈ β4.pr ∧ H4 D = some (.lst as) := fun e4 => e4.prot D hp' _ hd'
          split at h'
          · rename_i st4 et
            rw [et]
            intro β4 H4 b e4 hr4 eb
            subst eb
            rw [if_pos rfl]
            have hs4 := hs3.ext e4
            refine ⟨β4, s3, st4, hr4, hs4, ?_⟩
            split at h'
            · rename_i yv st5 ee
              rw [ee]
              intro β5 H5 yV e5 hr5 ry
              split at h'
              · rename_i hz
                have e25 := (e2.trans e3).trans (e4.trans e5)
                obtain ⟨hp5, hd5⟩ := keepD e25
                have ra5 := ra.ext e25
                refine ⟨as, hd5, by rw [← ra.length]; exact hz, ?_⟩
                have kp : Keep K β5 H5 (upd H5 D (.lst (as ++ [yV]))) := Keep.gset hd5 hp5
                exact ⟨β5, acc ++ [yv], as ++ [yV], st5, Ext.gset hd5 hp5 β1 H1 (e'.trans e25) hD, hr5.gset hd5 hp5, hp5, upd_same, (ra5.append (.cons ry .nil)).keep kp, fine _ _ _ _ ⟨_, _, h'⟩, by rw [hk']; exact h'⟩
              · cases h'
            · cases h'
          · rename_i st4 et
            rw [et]
            intro β4 H4 b e4 hr4 eb
            subst eb
            rw [if_neg Bool.false_ne_true]
            have e24 := (e2.trans e3).trans e4
            obtain ⟨hp4, hd4⟩ := keepD e24
            exact ⟨β4, acc, as, st4, e'.trans e24, hr4, hp4, hd4, ra.ext e24, fine _ _ _ _ ⟨_, _, h'⟩, by rw [hk']; exact h'⟩
          · cases h'
        · cases h'
      · cases h'
    · rw [Nat.sub_self] at h'
      unfold mLcLoop at h'
      rw [if_pos hf] at h'
      cases h'
      exact hk β1 H1 st1 β' H' D _ _ _ Q hr1 e' hr' hp' hd' ra hD hQ
where
  wipe_idem {σ : L2.St} {vs : List Nat} : wipe (wipe σ vs) vs = wipe σ vs := by
    apply List.ext_getElem?
    intro j
    rw [wipe_at, wipe_at, wipe_length]
    by_cases hm : j ∈ vs ∧ j < σ.length
    · rw [if_pos hm, if_pos hm]
    · rw [if_neg hm, if_neg hm]
theorem se_lc {K : PySem.W.Frag} {wi : TI} {mi : MI} {n : NT} {mt : MT} {me : ME} {vs : List Nat} (hw : NT.within vs n = true) (hi : ∀ β H σ s st R, HR K Cl β H st → SR K β H s σ → PoI K Cl E β H R (mi s st) → wi σ H R) :
    SE K Cl E (tLc wi (NT.g K n) (tMT K Cl E0 mt) (tM K Cl E0 me) vs) (mLc mi n mt me vs) :=
  se_lcG _ hw hi fun β1 H1 st1 β' H' D acs ws st' Q hr1 e' hr' hp' hd' ra hD h => by
    have hsub : ∀ q, q ∈ β'.pr.filter (fun q => decide (q ≠ D)) → q ∈ β'.pr := fun q hq => (List.mem_filter.mp hq).1
    refine h ⟨β'.l, β'.pr.filter fun q => decide (q ≠ D)⟩ H' _ (Ext.drop e' (fun q hq => (hr1.prot q hq).1) hD) (hr'.drop rfl hsub) (.lst hd' ⟨(hr'.prot D hp').2, fun z => ?_⟩ (RVs.drop' (β := β') (β' := ⟨β'.l, β'.pr.filter fun q => decide (q ≠ D)⟩) rfl hsub ra))
    exact absurd rfl (of_decide_eq_true (List.mem_filter.mp z).2)
theorem live_app {l : List (Option Addr)} {x : Option Addr} {i : Nat} {o : Option Addr} (h : l[i]? = some o) : (l ++ [x])[i]? = some o := by
  rw [List.getElem?_append_left (List.getElem?_eq_some_iff.mp h).1]; exact h
theorem app_at {l : List (Option Addr)} {x y : Option Addr} {i : Nat} (h : (l ++ [x])[i]? = some y) : l[i]? = some y ∨ (i = l.length ∧ x = y) := by
  rcases Nat.lt_trichotomy i l.length with c | c | c
  · rw [List.getElem?_append_left c] at h; exact .inl h
  · subst c
    rw [List.getElem?_append_right (Nat.le_refl _)] at h
    simp at h
    exact .inr ⟨rfl, h⟩
  · rw [List.getElem?_eq_none (by simp; omega)] at h; cases h
mutual
/-- a value's relation where the store's table has grown by an address that nobody holds as a list -/
theorem RV.adopt {K : PySem.W.Frag} {β : Bt} {H : Hp} {D : Addr} {pr : List Addr} (hp : ∀ q, q ∈ pr → q ∈ β.pr) (hD : D ∈ β.pr) : ∀ {w : W} {v : V}, RV K β H w v → RV K ⟨β.l ++ [some D], pr⟩ H w v
  | _, _, .non => .non
  | _, _, .bl b => .bl b
  | _, _, .int i => .int i
  | _, _, .str x => .str x
  | _, _, .tup h r => .tup h (RVs.adopt hp hD r)
  | _, _, .lst h n r => .lst h ⟨fun i z => by
      rcases app_at z with z | ⟨_, z⟩
      · exact n.1 i z
      · cases z; exact n.2 hD, fun z => n.2 (hp _ z)⟩ (RVs.adopt hp hD r)
  | _, _, .xst h r => .xst h (RVs.adopt hp hD r)
  | _, _, .ref h => .ref (live_app h)
  | _, _, .dead h => .dead (live_app h)
theorem RVs.adopt {K : PySem.W.Frag} {β : Bt} {H : Hp} {D : Addr} {pr : List Addr} (hp : ∀ q, q ∈ pr → q ∈ β.pr) (hD : D ∈ β.pr) : ∀ {ws : List W} {vs : List V}, RVs K β H ws vs → RVs K ⟨β.l ++ [some D], pr⟩ H ws vs
  | _, _, .nil => .nil
  | _, _, .cons h r => .cons (RV.adopt hp hD h) (RVs.adopt hp hD r)
end
theorem RF.adopt {K : PySem.W.Frag} {β : Bt} {H : Hp} {D : Addr} {pr : List Addr} {κ : Type} (hp : ∀ q, q ∈ pr → q ∈ β.pr) (hD : D ∈ β.pr) : ∀ {ws : List (κ × W)} {vs : List (κ × V)}, RF K β H ws vs → RF K ⟨β.l ++ [some D], pr⟩ H ws vs
  | _, _, .nil => .nil
  | _, _, .cons h r => .cons (RV.adopt hp hD h) (RF.adopt hp hD r)
theorem ro_adopt {K : PySem.W.Frag} {Cl : Nat → Addr} {β : Bt} {H : Hp} {D : Addr} {pr : List Addr} (hp : ∀ q, q ∈ pr → q ∈ β.pr) (hD : D ∈ β.pr) {a : Addr} {o : Ob} (h : RO K Cl β H a o) : RO K Cl (Bt.mk (β.l ++ [some D]) pr) H a o := by
  cases o with
  | lst xs => obtain ⟨vs, h1, h2⟩ := h; exact ⟨vs, h1, h2.adopt hp hD⟩
  | dK kvs => obtain ⟨vs, h1, h2⟩ := h; exact ⟨vs, h1, h2.adopt hp hD⟩
  | dT kvs => obtain ⟨vs, h1, h2⟩ := h; exact ⟨vs, h1, h2.adopt hp hD⟩
  | ins c fs => obtain ⟨d, vs, h1, h2⟩ := h; exact ⟨d, vs, h1, h2.adopt hp hD⟩
  | dead => exact h
theorem se_lcS {K : PySem.W.Frag} {wi : TI} {mi : MI} {n : NT} {mt : MT} {me : ME} {vs : List Nat} (hw : NT.within vs n = true) (hi : ∀ β H σ s st R, HR K Cl β H st → SR K β H s σ → PoI K Cl E β H R (mi s st) → wi σ H R) :
    SE K Cl E (tLc wi (NT.g K n) (tMT K Cl E0 mt) (tM K Cl E0 me) vs) (mLcS mi n mt me vs) :=
  se_lcG _ hw hi fun β1 H1 st1 β' H' D acs ws st' Q hr1 e' hr' hp' hd' ra hD h => by
    have hsub : ∀ q, q ∈ β'.pr.filter (fun q => decide (q ≠ D)) → q ∈ β'.pr := fun q hq => (List.mem_filter.mp hq).1
    have nD : ∀ i : Nat, β'.l[i]? ≠ some (some D) := (hr'.prot D hp').2
    have ed := Ext.drop e' (fun q hq => (hr1.prot q hq).1) hD
    have ra' := ra.adopt hsub hp'
    refine h ⟨β'.l ++ [some D], β'.pr.filter fun q => decide (q ≠ D)⟩ H' _ ⟨ed.tup, fun q us hq n => ⟨(ed.lst q us hq n).1, fun i z => ?_, (ed.lst q us hq n).2.2⟩, ed.frz, fun i o hi => (ed.live i o hi).imp live_app live_app, ed.prot⟩ ⟨?_, ?_, ?_, ?_, ?_⟩ (.ref ?_)
    · rcases app_at z with z | ⟨_, z⟩
      · exact (ed.lst q us hq n).2.1 i z
      · cases z; rw [hD] at hq; cases hq
    · rw [List.length_append, List.length_append, hr'.len] <;> rfl
    · intro i j a hi hj
      rcases app_at hi with hi | ⟨hi, ei⟩
      · rcases app_at hj with hj | ⟨hj, ej⟩
        · exact hr'.inj i j a hi hj
        · cases ej; exact absurd hi (nD i)
      · rcases app_at hj with hj | ⟨hj, ej⟩
        · cases ei; exact absurd hj (nD j)
        · rw [hi, hj]
    · intro i a ob hi0 ho
      rcases app_at hi0 with hi | ⟨hi, ei⟩
      · have hl : i < st'.length := by rw [← hr'.len]; exact (List.getElem?_eq_some_iff.mp hi).1
        rw [List.getElem?_append_left hl] at ho
        exact ro_adopt hsub hp' (hr'.ob i a ob hi ho)
      · cases ei
        rw [hi, hr'.len, List.getElem?_append_right (Nat.le_refl _), Nat.sub_self] at ho
        cases ho
        exact ⟨acs, hd', ra'⟩
    · intro i hi
      rcases app_at hi with hi | ⟨_, ei⟩
      · have hl : i < st'.length := by rw [← hr'.len]; exact (List.getElem?_eq_some_iff.mp hi).1
        rw [List.getElem?_append_left hl]
        exact hr'.dead i hi
      · cases ei
    · intro q hq
      have hq2 := List.mem_filter.mp hq
      refine ⟨(hr'.prot q hq2.1).1, fun i z => ?_⟩
      rcases app_at z with z | ⟨_, z⟩
      · exact (hr'.prot q hq2.1).2 i z
      · cases z; exact absurd rfl (of_decide_eq_true hq2.2)
    · show (β'.l ++ [some D])[st'.length]? = some (some D)
      rw [← hr'.len]; simp
theorem je_lc {elt tg iter : Expr} {ifs : List Expr} {scope : Scope} {own : List (Str × Nat)} {pos : Pos} {mi : MI} {n : NT} {mt : MT} {me : ME} (hc : X.calm = true) (hN : X.N.Nodup) (hi : JI X Cl E tg iter mi) (ok : BlkOk X.N X.env.scope scope own)
    (hg : ∀ (s : Shared) (H : Hp) (C : Addr) (cl : List (Str × Addr)) (fp : List Addr), JN (X.blk s H scope (compEnvC scope cl C X.env) fp) tg n) (ht : ∀ (s : Shared) (H : Hp) (C : Addr) (cl : List (Str × Addr)) (fp : List Addr), JTs (X.blk s H scope (compEnvC scope cl C X.env) fp) Cl E0 ifs mt)
    (he : ∀ (s : Shared) (H : Hp) (C : Addr) (cl : List (Str × Addr)) (fp : List Addr), JE (X.blk s H scope (compEnvC scope cl C X.env) fp) Cl E0 elt me) (hw : NT.within (own.map (·.2)) n = true := by rfl) (hs : ∀ x, foldedSetIterable iter X.env x = pure x := by intro _; rfl) :
    JE X Cl E (.ListComp elt [⟨tg, iter, ifs, 0⟩] scope pos) (mLc mi n mt me (own.map (·.2))) := by
  obtain ⟨_, p1, q1⟩ := hi.ex
  exact ⟨_, pe_lc hc hN p1 ok (fun s H C cl fp => (hg s H C cl fp).pg) (fun s H C cl fp => (ht s H C cl fp).ex) (fun s H C cl fp => (he s H C cl fp).pe) hs, se_lc hw q1⟩
/-- name = [..] -/
theorem js_setLc (i : Nat) {y : Str} {py : Pos} {elt tg iter : Expr} {ifs : List Expr} {scope : Scope} {own : List (Str × Nat)} {pos spos : Pos} {mi : MI} {n : NT} {mt : MT} {me : ME} (hc : X.calm = true) (hN : X.N.Nodup)
    (hsw : swapsWith (.ListComp elt [⟨tg, iter, ifs, 0⟩] scope pos) (some (.Name y py)) spos.line X.env = pure true) (hi : JI X Cl E tg iter mi) (ok : BlkOk X.N X.env.scope scope own)
    (hg : ∀ (s : Shared) (H : Hp) (C : Addr) (cl : List (Str × Addr)) (fp : List Addr), JN (X.blk s H scope (compEnvC scope cl C X.env) fp) tg n) (ht : ∀ (s : Shared) (H : Hp) (C : Addr) (cl : List (Str × Addr)) (fp : List Addr), JTs (X.blk s H scope (compEnvC scope cl C X.env) fp) Cl E0 ifs mt)
    (he : ∀ (s : Shared) (H : Hp) (C : Addr) (cl : List (Str × Addr)) (fp : List Addr), JE (X.blk s H scope (compEnvC scope cl C X.env) fp) Cl E0 elt me) (hy : X.N[i]? = some y := by rfl) (hyl : X.env.scope.names.lookup y = some .local := by rfl) (hw : NT.within (own.map (·.2)) n = true := by rfl) (hs : ∀ x, foldedSetIterable iter X.env x = pure x := by intro _; rfl) :
    JS X Cl E (.Assign [.Name y py] (.ListComp elt [⟨tg, iter, ifs, 0⟩] scope pos) spos) (mAsg (mLc mi n mt me (own.map (·.2))) (mGN i)) := by
  obtain ⟨_, p1, q1⟩ := hi.ex
  refine ⟨_, ps_setLc hc hN hy hyl hsw p1 ok (fun s H C cl fp => (hg s H C cl fp).pg) (fun s H C cl fp => (ht s H C cl fp).ex) (fun s H C cl fp => (he s H C cl fp).pe) hs, fun β H σ s st D hr hs h => se_lc hw q1 β H σ s st _ hr hs (h.run fun x st1 β1 H1 v _ e1 hr1 rx h1 => PoS.val h1 hr1 ((hs.ext e1).set rx))⟩
theorem je_lcS {elt tg iter : Expr} {ifs : List Expr} {scope : Scope} {own : List (Str × Nat)} {pos : Pos} {mi : MI} {n : NT} {mt : MT} {me : ME} (hc : X.calm = true) (hN : X.N.Nodup) (hi : JI X Cl E tg iter mi) (ok : BlkOk X.N X.env.scope scope own)
    (hg : ∀ (s : Shared) (H : Hp) (C : Addr) (cl : List (Str × Addr)) (fp : List Addr), JN (X.blk s H scope (compEnvC scope cl C X.env) fp) tg n) (ht : ∀ (s : Shared) (H : Hp) (C : Addr) (cl : List (Str × Addr)) (fp : List Addr), JTs (X.blk s H scope (compEnvC scope cl C X.env) fp) Cl E0 ifs mt)
    (he : ∀ (s : Shared) (H : Hp) (C : Addr) (cl : List (Str × Addr)) (fp : List Addr), JE (X.blk s H scope (compEnvC scope cl C X.env) fp) Cl E0 elt me) (hw : NT.within (own.map (·.2)) n = true := by rfl) (hs : ∀ x, foldedSetIterable iter X.env x = pure x := by intro _; rfl) :
    JE X Cl E (.ListComp elt [⟨tg, iter, ifs, 0⟩] scope pos) (mLcS mi n mt me (own.map (·.2))) := by
  obtain ⟨_, p1, q1⟩ := hi.ex
  exact ⟨_, pe_lc hc hN p1 ok (fun s H C cl fp => (hg s H C cl fp).pg) (fun s H C cl fp => (ht s H C cl fp).ex) (fun s H C cl fp => (he s H C cl fp).pe) hs, se_lcS hw q1⟩
theorem js_setLcS (i : Nat) {y : Str} {py : Pos} {elt tg iter : Expr} {ifs : List Expr} {scope : Scope} {own : List (Str × Nat)} {pos spos : Pos} {mi : MI} {n : NT} {mt : MT} {me : ME} (hc : X.calm = true) (hN : X.N.Nodup)
    (hsw : swapsWith (.ListComp elt [⟨tg, iter, ifs, 0⟩] scope pos) (some (.Name y py)) spos.line X.env = pure true) (hi : JI X Cl E tg iter mi) (ok : BlkOk X.N X.env.scope scope own)
    (hg : ∀ (s : Shared) (H : Hp) (C : Addr) (cl : List (Str × Addr)) (fp : List Addr), JN (X.blk s H scope (compEnvC scope cl C X.env) fp) tg n) (ht : ∀ (s : Shared) (H : Hp) (C : Addr) (cl : List (Str × Addr)) (fp : List Addr), JTs (X.blk s H scope (compEnvC scope cl C X.env) fp) Cl E0 ifs mt)
    (he : ∀ (s : Shared) (H : Hp) (C : Addr) (cl : List (Str × Addr)) (fp : List Addr), JE (X.blk s H scope (compEnvC scope cl C X.env) fp) Cl E0 elt me) (hy : X.N[i]? = some y := by rfl) (hyl : X.env.scope.names.lookup y = some .local := by rfl) (hw : NT.within (own.map (·.2)) n = true := by rfl) (hs : ∀ x, foldedSetIterable iter X.env x = pure x := by intro _; rfl) :
    JS X Cl E (.Assign [.Name y py] (.ListComp elt [⟨tg, iter, ifs, 0⟩] scope pos) spos) (mAsg (mLcS mi n mt me (own.map (·.2))) (mGN i)) := by
  obtain ⟨_, p1, q1⟩ := hi.ex
  refine ⟨_, ps_setLc hc hN hy hyl hsw p1 ok (fun s H C cl fp => (hg s H C cl fp).pg) (fun s H C cl fp => (ht s H C cl fp).ex) (fun s H C cl fp => (he s H C cl fp).pe) hs, fun β H σ s st D hr hs h => se_lcS hw q1 β H σ s st _ hr hs (h.run fun x st1 β1 H1 v _ e1 hr1 rx h1 => PoS.val h1 hr1 ((hs.ext e1).set rx))⟩
end

/-! ### defs -/
/-- a def's body run with its arguments; nothing is raised -/
@[simp] def mDef (n k : Nat) (body : MS) : MF := fun ws st => if ws.length = n then match body (ws.map some ++ List.replicate k none) st with
    | .rt w st1 => .ok w st1
    | .nx _ st1 => .ok .non st1
    | _ => .stuck
  else .stuck
/-- .. that may raise -/
@[simp] def mDefX (n k : Nat) (body : MS) : MF := fun ws st => if ws.length = n then match body (ws.map some ++ List.replicate k none) st with
    | .rt w st1 => .ok w st1
    | .nx _ st1 => .ok .non st1
    | .exc c fs st1 => .exc c fs st1
    | _ => .stuck
  else .stuck
def NoX (m : MF) : Prop := ∀ ws st c fs st', m ws st ≠ .exc c fs st'
theorem nox_def {n k : Nat} {body : MS} : NoX (mDef n k body) := fun ws st c fs st' z => by
  unfold mDef at z
  split at z
  · split at z <;> cases z
  · cases z
/-- the promise that a def does what its mirror does -/
def spM (K : PySem.W.Frag) (Cl : Nat → Addr) (n : Nat) (m : MF) : Sp := fun vs H Q E => vs.length = n ∧ ∃ β ws st, HR K Cl β H st ∧ RVs K β H ws vs ∧ Po K Cl E β H Q (m ws st)
section
variable {P : Program} {w : World} {K : PySem.W.Frag} {Cl : Nat → Addr} {mg : Str → Option Value} {base : Heap}
theorem sr_start {β : Bt} {H : Hp} {ws : List W} {vs : List V} {N : List Str} {k : Nat} (r : RVs K β H ws vs) (hk : N.length - vs.length = k) : SR K β H (ws.map some ++ List.replicate k none) (L2.start N vs) := by
  unfold L2.start
  rw [hk]
  refine ⟨by simp [r.length], fun i u hi => ?_⟩
  by_cases hl : i < ws.length
  · rw [List.getElem?_append_left (by simpa using hl), List.getElem?_map] at hi
    cases e : ws[i]? with
    | none => rw [e] at hi; cases hi
    | some x =>
      rw [e] at hi
      cases hi
      obtain ⟨v, hv, rv⟩ := r.get e
      exact ⟨v, by rw [List.getElem?_append_left (by rw [List.length_map, ← r.length]; exact hl), List.getElem?_map, hv] <;> rfl, rv⟩
  · rw [List.getElem?_append_right (by simpa using hl)] at hi
    by_cases h2 : i - (ws.map some).length < k
    · rw [List.getElem?_replicate_of_lt h2] at hi; cases hi
    · rw [List.getElem?_eq_none (by simpa using h2)] at hi; cases hi
theorem fn_ok {x qual : Str} {st : Stmt} {f : Addr} {fd : FuncData} {N ps : List Str} {k n j : Nat} {body : MS} (F : Fun K x qual st f fd) (S : FnScope N ps (defScope st)) (hn : ps.length = n) (hj : N.length - n = j)
    (hb : ∀ (cdv : Value) (A : Around) (outer : List Env) (s : Shared) (H : Hp) (E : XK), Room k (A.deeper (envOfC qual (defScope st) s.heap.objs.size f cdv)) → JSs (cxOf CX0 P w K mg base N qual (defScope st) f cdv A outer s H E).nox Cl E0 (defBody st) body) :
    FnOk P w K mg base CX0 (k + 1) f fd ps (spM K Cl n (mDef n j body)) := by
  refine F.ok S (fun vs H Q E h => h.1.trans hn.symm) (fun cdv A outer s H vs Q E hr h => ?_)
  obtain ⟨hl, β, ws, sto, hR, rv, po⟩ := h
  obtain ⟨t, p, q⟩ := (hb cdv A outer s H E hr).ex
  refine ⟨t, p, q β H _ (ws.map some ++ List.replicate j none) sto _ hR (sr_start rv (by rw [hl]; exact hj)) ?_⟩
  unfold mDef at po
  rw [if_pos (rv.length.trans hl)] at po
  split at po
  · rename_i w1 st1 e
    rw [e]
    exact po
  · rename_i s1 st1 e
    rw [e]
    exact fun β' H' σ' e' hr' hs' => po β' H' .non e' hr' .non
  · exact po.elim
theorem fn_okX {x qual : Str} {st : Stmt} {f : Addr} {fd : FuncData} {N ps : List Str} {k n j : Nat} {body : MS} (F : Fun K x qual st f fd) (S : FnScope N ps (defScope st)) (hn : ps.length = n) (hj : N.length - n = j)
    (hb : ∀ (cdv : Value) (A : Around) (outer : List Env) (s : Shared) (H : Hp) (E : XK), Room k (A.deeper (envOfC qual (defScope st) s.heap.objs.size f cdv)) → JSs (cxOf (L2.CX P w) P w K mg base N qual (defScope st) f cdv A outer s H E) Cl E (defBody st) body) :
    FnOk P w K mg base (L2.CX P w) (k + 1) f fd ps (spM K Cl n (mDefX n j body)) := by
  refine F.okX S (fun vs H Q E h => h.1.trans hn.symm) (fun cdv A outer s H vs Q E hr h => ?_)
  obtain ⟨hl, β, ws, sto, hR, rv, po⟩ := h
  obtain ⟨t, p, q⟩ := (hb cdv A outer s H E hr).ex
  refine ⟨t, p, q β H _ (ws.map some ++ List.replicate j none) sto _ hR (sr_start rv (by rw [hl]; exact hj)) ?_⟩
  unfold mDefX at po
  rw [if_pos (rv.length.trans hl)] at po
  split at po
  · rename_i w1 st1 e
    rw [e]
    exact po
  · rename_i s1 st1 e
    rw [e]
    exact fun β' H' σ' e' hr' hs' => po β' H' .non e' hr' .non
  · rename_i c fs st1 e
    rw [e]
    exact po
  · exact po.elim
end

/-! ### calls -/
@[simp] def mCall (n : Nat) (m : MF) (a : MA) : ME := fun s st => (a s st).bind fun ws st1 => if ws.length = n then m ws st1 else .stuck
@[simp] def mMeth (c : Nat) (nm : Str) (n : Nat) (m : MF) (o : ME) (a : MA) : ME := fun s st => (o s st).bind fun x st1 => match x with
  | .ref i => match st1[i]? with
    | some (.ins d fs) => if d = c ∧ fs.lookup nm = none then (a s st1).bind fun ws st2 => if ws.length + 1 = n then m (x :: ws) st2 else .stuck else .stuck
    | _ => .stuck
  | _ => .stuck
@[simp] def mMake (c n : Nat) (m : MF) (a : MA) : ME := fun s st => (a s st).bind fun ws st1 => if ws.length + 1 = n then (m (.ref st1.length :: ws) (st1 ++ [.ins c []])).bind fun r st2 => match r with
    | .non => match st2[st1.length]? with
      | some (.ins _ _) => .ok (.ref st1.length) st2
      | _ => .stuck
    | _ => .stuck
  else .stuck
section
variable {X : Cx} {Cl : Nat → Addr} {E E1 : XK} {pos p apos : Pos} {ma mo : ME} {mr : MA} {e o : Expr} {es : List Expr} {k n f : Nat} {CX : CXT} {fd : FuncData} {ps : List Str} {m : MF} {x : Str}
/-- what a callee may raise reaches what is wished of exceptions here -/
structure Let (X : Cx) (CX : CXT) (E : XK) (m : MF) (E1 : XK) : Prop where
  ps : Passes CX X E1
  po : ∀ {Cl : Nat → Addr} {β : Bt} {H : Hp} {Q : VK} {ws : List W} {st : Sto}, Po X.K Cl E β H Q (m ws st) → Po X.K Cl E1 β H Q (m ws st)
theorem let0 (h : NoX m) : Let X CX0 E m E0 := ⟨pass0, fun {Cl β H Q ws st} hp => PoW.E0 hp (h ws st)⟩
theorem letX (h : Passes (L2.CX X.prog X.w) X E) : Let X (L2.CX X.prog X.w) E m E := ⟨h, fun h => h⟩
theorem se_call {K : PySem.W.Frag} {ta : TA} (hl : ∀ {β : Bt} {H : Hp} {Q : VK} {ws : List W} {st : Sto}, Po K Cl E β H Q (m ws st) → Po K Cl E1 β H Q (m ws st)) (q : SA K Cl E ta mr) : SE K Cl E (tCall (spM K Cl n m) [] E1 ta) (mCall n m mr) := fun β H σ s st Q hr hs h => q β H σ s st _ hr hs (h.bind fun ws st1 β1 H1 vs _ e1 hr1 rv h1 => by
  split at h1
  · rename_i hn
    rw [List.append_nil]
    exact ⟨by rw [← rv.length]; exact hn, β1, ws, st1, hr1, rv, hl h1⟩
  · exact h1.elim)
theorem je_call (F : FnOk X.prog X.w X.K X.mg X.base CX k f fd ps (spM X.K Cl n m)) (hr : Room k X.A) (hm : X.mg x = some (.ref f)) (hk : PySem.W.keepIn X.K (.ref f) = true) (hb : Binds X.K fd ps []) (hl : Let X CX E m E1) (ha : JA X Cl E (e :: es) mr) (hg : Gl X x := by rfl)
    (hdb : (x == ("__debug__" : Str)) = false := by decide) (he : starEach (e :: es) X.env = (false, eval e X.env) :: starEach es X.env := by rfl) (hpl : (backTo pos (starEach es X.env)).any (·.1) = false := by rfl) : JE X Cl E (.Call (.Name x p) (e :: es) [] pos) (mCall n m mr) := by
  obtain ⟨_, pr, q⟩ := ha.ex
  exact ⟨_, pe_call F hr hg hm hk hb .nil hl.ps pr hdb he hpl, se_call hl.po q⟩
theorem sa_nil {K : PySem.W.Frag} : SA K Cl E tNil mNil := fun β H σ s st Q hr hs h => PoG.val h hr .nil
theorem je_call0 (F : FnOk X.prog X.w X.K X.mg X.base CX k f fd ps (spM X.K Cl n m)) (hr : Room k X.A) (hm : X.mg x = some (.ref f)) (hk : PySem.W.keepIn X.K (.ref f) = true) (hb : Binds X.K fd ps []) (hl : Let X CX E m E1) (hg : Gl X x := by rfl) (hdb : (x == ("__debug__" : Str)) = false := by decide) :
    JE X Cl E (.Call (.Name x p) [] [] pos) (mCall n m mNil) := ⟨_, pe_call0 F hr hg hm hk hb .nil hl.ps hdb, se_call hl.po sa_nil⟩
theorem se_meth {K : PySem.W.Frag} {c : Nat} {nm : Str} {to : TE} {ta : TA} (hl : ∀ {β : Bt} {H : Hp} {Q : VK} {ws : List W} {st : Sto}, Po K Cl E β H Q (m ws st) → Po K Cl E1 β H Q (m ws st)) (qo : SE K Cl E to mo) (q : SA K Cl E ta mr) : SE K Cl E (tMeth (Cl c) nm (spM K Cl n m) [] E1 to ta) (mMeth c nm n m mo mr) := fun β H σ s st Q hr hs h => qo β H σ s st _ hr hs (h.bind fun x st1 β1 H1 v _ e1 hr1 rx h1 => by
  cases x with
  | ref i =>
    simp only at h1
    split at h1
    · rename_i d fs es
      split at h1
      · rename_i hd
        obtain ⟨rfl, hno⟩ := hd
        obtain ⟨a, rfl, hb, dx, gs, hv, hrs⟩ := rx.atRef hr1 es (by intro z; cases z)
        refine ⟨a, dx, gs, rfl, hv, hrs.lookN hno, q β1 H1 σ s st1 _ hr1 (hs.ext e1) (h1.bind fun ws st2 β2 H2 vs _ e2 hr2 rv h2 => ?_)⟩
        split at h2
        · rename_i hn
          rw [List.append_nil]
          exact ⟨by rw [List.length_cons, ← rv.length]; exact hn, β2, _, st2, hr2, .cons (rx.ext e2) rv, hl h2⟩
        · exact h2.elim
      · exact h1.elim
    · exact h1.elim
  | _ => exact h1.elim)
theorem je_meth {c : Nat} {nm : Str} {pl : Sem Bool} (hc : Cls X.K (Cl c)) (hm : Meth X.K (Cl c) nm f) (F : FnOk X.prog X.w X.K X.mg X.base CX k f fd ps (spM X.K Cl n m)) (hr : Room k X.A) (hb : Binds X.K fd ps []) (hl : Let X CX E m E1) (ho : JE X Cl E o mo) (ha : JA X Cl E (e :: es) mr)
    (hst : starEach (e :: es) X.env = (false, eval e X.env) :: starEach es X.env := by rfl) (hpl : (backTo pos (starEach es X.env)).any (·.1) = false := by rfl)
    (ht : eval (.Call (.Attribute o nm apos) (e :: es) [] pos) X.env = (do
      let ov ← eval o X.env
      standAt apos.atName
      let (f, first) ← holding [ov] (getMethod ov nm pl)
      callWith pos f first (backTo pos (starEach (e :: es) X.env)) (backToKw pos (keywordEach [] X.env))) := by rfl) :
    JE X Cl E (.Call (.Attribute o nm apos) (e :: es) [] pos) (mMeth c nm n m mo mr) := by
  obtain ⟨_, po, qo⟩ := ho.ex
  obtain ⟨_, pr, q⟩ := ha.ex
  exact ⟨_, pe_meth po hc hm F hr hb .nil hl.ps pr hst hpl ht, se_meth hl.po qo q⟩
theorem je_meth0 {c : Nat} {nm : Str} {pl : Sem Bool} (hc : Cls X.K (Cl c)) (hm : Meth X.K (Cl c) nm f) (F : FnOk X.prog X.w X.K X.mg X.base CX k f fd ps (spM X.K Cl n m)) (hr : Room k X.A) (hb : Binds X.K fd ps []) (hl : Let X CX E m E1) (ho : JE X Cl E o mo)
    (ht : eval (.Call (.Attribute o nm apos) [] [] pos) X.env = (do
      let ov ← eval o X.env
      standAt apos.atName
      let (f, first) ← holding [ov] (getMethod ov nm pl)
      callWith pos f first (backTo pos (starEach [] X.env)) (backToKw pos (keywordEach [] X.env))) := by rfl) :
    JE X Cl E (.Call (.Attribute o nm apos) [] [] pos) (mMeth c nm n m mo mNil) := by
  obtain ⟨_, po, qo⟩ := ho.ex
  exact ⟨_, pe_meth0 po hc hm F hr hb .nil hl.ps ht, se_meth hl.po qo sa_nil⟩
theorem se_make {K : PySem.W.Frag} {c : Nat} {ta : TA} (hl : ∀ {β : Bt} {H : Hp} {Q : VK} {ws : List W} {st : Sto}, Po K Cl E β H Q (m ws st) → Po K Cl E1 β H Q (m ws st)) (q : SA K Cl E ta mr) : SE K Cl E (tMake (Cl c) (spM K Cl n m) [] E1 ta) (mMake c n m mr) := fun β H σ s st Q hr hs h => q β H σ s st _ hr hs (h.bind fun ws st1 β1 H1 vs _ e1 hr1 rv h1 x dx hx hd hne => by
  split at h1
  · rename_i hn
    rw [List.append_nil]
    have hx2 : upd H1 dx (.own x) x = none := by rw [upd_ne hne.symm]; exact hx
    have ea : Ext K β1 H1 β1 (upd H1 dx (.own x)) := Ext.new hd
    have eb : Ext K β1 (upd H1 dx (.own x)) (β1.push x) (upd (upd H1 dx (.own x)) x (.ins (Cl c) dx [])) := Ext.push hx2
    have hr2 : HR K Cl (β1.push x) (upd (upd H1 dx (.own x)) x (.ins (Cl c) dx [])) (st1 ++ [.ins c []]) := (hr1.new hd).push hx2 ⟨dx, [], upd_same, .nil⟩
    have hb : (β1.push x).l[st1.length]? = some (some x) := by rw [← hr1.len]; exact push_last
    refine ⟨by rw [List.length_cons, ← rv.length]; exact hn, β1.push x, _, _, hr2, .cons (.ref hb) ((rv.ext ea).ext eb), hl ?_⟩
    refine ((PoG.ext (ea.trans eb) h1).bind fun r st2 β2 H2 v eq e2 hr3 rr h2 => ?_)
    split at h2
    · cases rr
      refine ⟨rfl, ?_⟩
      split at h2
      · rename_i es
        exact PoG.val h2 hr3 (.ref (hr3.stay e2 hb es (by intro z; cases z)))
      · exact h2.elim
    · exact h2.elim
  · exact h1.elim)
theorem je_make {c : Nat} (M : Mk X.K (Cl c) f) (F : FnOk X.prog X.w X.K X.mg X.base CX k f fd ps (spM X.K Cl n m)) (hr : Room (k + 1) X.A) (hm : X.mg x = some (.ref (Cl c))) (hb : Binds X.K fd ps []) (hl : Let X CX E m E1) (ha : JA X Cl E (e :: es) mr) (hg : Gl X x := by rfl)
    (hdb : (x == ("__debug__" : Str)) = false := by decide) (he : starEach (e :: es) X.env = (false, eval e X.env) :: starEach es X.env := by rfl) (hpl : (backTo pos (starEach es X.env)).any (·.1) = false := by rfl) : JE X Cl E (.Call (.Name x p) (e :: es) [] pos) (mMake c n m mr) := by
  obtain ⟨_, pr, q⟩ := ha.ex
  exact ⟨_, pe_make M F hr hg hm hb .nil hl.ps pr hdb he hpl, se_make hl.po q⟩
theorem je_make0 {c : Nat} (M : Mk X.K (Cl c) f) (F : FnOk X.prog X.w X.K X.mg X.base CX k f fd ps (spM X.K Cl n m)) (hr : Room (k + 1) X.A) (hm : X.mg x = some (.ref (Cl c))) (hb : Binds X.K fd ps []) (hl : Let X CX E m E1) (hg : Gl X x := by rfl) (hdb : (x == ("__debug__" : Str)) = false := by decide) :
    JE X Cl E (.Call (.Name x p) [] [] pos) (mMake c n m mNil) := ⟨_, pe_make0 M F hr hg hm hb .nil hl.ps hdb, se_make hl.po sa_nil⟩
end

theorem room65 {A : Around} {k : Nat} (hr : Room k A) : A.units + 65 < cLine := by have := hr.un; omega
theorem room1 {A : Around} {k : Nat} (hr : Room k A) : A.units + 1 < cLine := by have := hr.un; omega

/-! ### the law's end -/
def spLaw (K : PySem.W.Frag) (Cl : Nat → Addr) (m : MF) : Sp := spM K Cl 1 m
theorem rv_ints {K : PySem.W.Frag} {β : Bt} {H : Hp} : ∀ ns : List Int, RVs K β H (ns.map W.int) (ns.map V.int)
  | [] => .nil
  | n :: ns => .cons (.int n) (rv_ints ns)
theorem law_sp {K : PySem.W.Frag} {Cl : Nat → Addr} {m : MF} {H : Hp} {a : Addr} {ns : List Int} (hO : Only H) (hS : SqL K H a (ns.map V.int)) (h : ∃ st, m [.xst (ns.map W.int)] [] = .ok (.bl true) st) :
    spLaw K Cl m [.ref a] H (fun v _ => v = .bl true) fun _ _ _ => False := by
  obtain ⟨st, h⟩ := h
  refine ⟨rfl, ⟨[], []⟩, [.xst (ns.map W.int)], [], ⟨rfl, fun i j b hi => by simp at hi, fun i b o hi => by simp at hi, fun i hi => by simp at hi, fun p hp => by simp at hp⟩, .cons (.xst (vs := ns.map V.int) ?_ (rv_ints ns)) .nil, ?_⟩
  · rcases hS with (hS | hS) | hS
    · rcases hO a with z | ⟨o, xs, z⟩
      · rw [hS] at z; cases z
      · rw [hS] at z; cases z
    · exact .inr hS
    · exact .inl hS
  · rw [h]
    intro β' H' v e hr r
    cases r
    rfl
end Mi
/-! The mirror layer, part P: plain rules for the mirrors' loops. -/
namespace Mi
open PySem L2

/-- what a loop's body may come to: go on with `I`, or end as `R` says -/
@[simp] def Step (I : Slo → Sto → Prop) (R : SO → Prop) : SO → Prop
  | .nx s st => I s st
  | .ct s st => I s st
  | .bk s st => R (.nx s st)
  | .rt w st => R (.rt w st)
  | .exc c fs st => R (.exc c fs st)
  | .stuck => False
theorem loop_vals_at {ws : List W} {g : MG} {body : MS} (I : Nat → Slo → Sto → Prop) (R : SO → Prop)
    (step : ∀ i w s st, ws[i]? = some w → I i s st → ∃ s1 st1, g w s st = some (s1, st1) ∧ Step (I (i + 1)) R (body s1 st1))
    (fin : ∀ s st, I ws.length s st → R (.nx s st)) :
    ∀ (k i : Nat) (s : Slo) (st : Sto), i + k = ws.length → I i s st → R (mLoop (.vals ws) g body k i s st)
  | 0, i, s, st, e, h => by
    have e' : i = ws.length := by omega
    subst e'
    simp only [mLoop, Src.fine, if_true]
    exact fin s st h
  | k + 1, i, s, st, e, h => by
    have hi : i < ws.length := by omega
    obtain ⟨s1, st1, hg, hb⟩ := step i ws[i] s st (List.getElem?_eq_getElem hi) h
    have ih := loop_vals_at I R step fin k (i + 1)
    simp only [mLoop, Src.fine, if_true, Src.at, List.getElem?_eq_getElem hi, hg]
    cases hc : body s1 st1 with
    | nx s2 st2 => rw [hc] at hb; exact ih s2 st2 (by omega) hb
    | ct s2 st2 => rw [hc] at hb; exact ih s2 st2 (by omega) hb
    | bk s2 st2 => rw [hc] at hb; exact hb
    | rt w2 st2 => rw [hc] at hb; exact hb
    | exc c fs st2 => rw [hc] at hb; exact hb
    | stuck => rw [hc] at hb; exact hb.elim
theorem loop_vals {ws : List W} {g : MG} {body : MS} (I : Nat → Slo → Sto → Prop) (R : SO → Prop) {s : Slo} {st : Sto} (h0 : I 0 s st)
    (step : ∀ i w s st, ws[i]? = some w → I i s st → ∃ s1 st1, g w s st = some (s1, st1) ∧ Step (I (i + 1)) R (body s1 st1))
    (fin : ∀ s st, I ws.length s st → R (.nx s st)) :
    R (mLoop (.vals ws) g body ws.length 0 s st) := loop_vals_at I R step fin _ 0 s st (by omega) h0
/-- as an equation's left side: the loop ends well, and `I` holds there -/
theorem loop_nx {ws : List W} {g : MG} {body : MS} {n : Nat} (hn : ws.length = n) (I : Nat → Slo → Sto → Prop) {s : Slo} {st : Sto} (h0 : I 0 s st)
    (step : ∀ i w s st, ws[i]? = some w → I i s st → ∃ s1 st1, g w s st = some (s1, st1) ∧ ∃ s2 st2, (body s1 st1 = .nx s2 st2 ∨ body s1 st1 = .ct s2 st2) ∧ I (i + 1) s2 st2) :
    ∃ s2 st2, mLoop (.vals ws) g body n 0 s st = .nx s2 st2 ∧ I n s2 st2 := by
  subst hn
  refine loop_vals (R := fun o => ∃ s2 st2, o = .nx s2 st2 ∧ I ws.length s2 st2) I h0 (fun i w s st hw hi => ?_) (fun s st h => ⟨s, st, rfl, h⟩)
  obtain ⟨s1, st1, hg, s2, st2, hb, h2⟩ := step i w s st hw hi
  refine ⟨s1, st1, hg, ?_⟩
  rcases hb with hb | hb <;> rw [hb] <;> exact h2
theorem loop_st {ws : List W} {g : MG} {body : MS} {n : Nat} (hn : ws.length = n) (I : Nat → Slo → Sto → Prop) {s : Slo} {st : Sto} (h0 : I 0 s st)
    (step : ∀ i w s st, ws[i]? = some w → I i s st → ∃ s1 st1, g w s st = some (s1, st1) ∧ Step (I (i + 1)) (fun _ => False) (body s1 st1)) :
    ∃ s2 st2, mLoop (.vals ws) g body n 0 s st = .nx s2 st2 ∧ I n s2 st2 := by
  refine loop_nx hn I h0 fun i w s st hw hi => ?_
  obtain ⟨s1, st1, hg, hb⟩ := step i w s st hw hi
  refine ⟨s1, st1, hg, ?_⟩
  cases hc : body s1 st1 with
  | nx s2 st2 => rw [hc] at hb; exact ⟨s2, st2, .inl rfl, hb⟩
  | ct s2 st2 => rw [hc] at hb; exact ⟨s2, st2, .inr rfl, hb⟩
  | bk s2 st2 => rw [hc] at hb; exact hb.elim
  | rt w2 st2 => rw [hc] at hb; exact hb.elim
  | exc c fs st2 => rw [hc] at hb; exact hb.elim
  | stuck => rw [hc] at hb; exact hb.elim
@[simp] theorem Src.len_vals (ws : List W) : (Src.vals ws).len = ws.length := rfl
@[simp] theorem rngW_len (lo : Int) (n : Nat) : (rngW lo n).length = n := by simp [rngW]
theorem rngW_get {lo : Int} {n i : Nat} {w : W} (h : (rngW lo n)[i]? = some w) : i < n ∧ w = .int (lo + (i : Nat)) := by
  simp only [rngW, List.getElem?_map] at h
  rcases Nat.lt_or_ge i n with hi | hi
  · rw [List.getElem?_range hi] at h
    simp at h
    exact ⟨hi, h.symm⟩
  · rw [List.getElem?_eq_none (by simpa using hi)] at h
    simp at h
theorem rng0_get {n i : Nat} {w : W} (h : (rngW 0 n)[i]? = some w) : i < n ∧ w = .int (i : Nat) := by
  have h1 := rngW_get h
  rwa [Int.zero_add] at h1
/-- a walk that changes no store -/
theorem lc_vals_at {ws : List W} {g : MG} {t : MT} {e : ME} {s : Slo} {st : Sto} (p : W → Bool) (q : W → W)
    (h : ∀ w ∈ ws, ∃ s2, g w s st = some (s2, st) ∧ t s2 st = .ok (p w) st ∧ (p w = true → e s2 st = .ok (q w) st)) :
    ∀ (k i : Nat) (acc : List W), i + k = ws.length → acc.length + k ≤ sizeLine →
      mLcLoop (.vals ws) g t e s k i acc st = .ok (acc ++ ((ws.drop i).filter p).map q) st
  | 0, i, acc, e, hl => by
    have e' : i = ws.length := by omega
    subst e'
    simp [mLcLoop, Src.fine]
  | k + 1, i, acc, e, hl => by
    have hi : i < ws.length := by omega
    obtain ⟨s2, hg, ht, he⟩ := h ws[i] (List.getElem_mem hi)
    have hd := List.drop_eq_getElem_cons hi
    simp only [mLcLoop, Src.fine, if_true, Src.at, List.getElem?_eq_getElem hi, hg, ht]
    cases hp : p ws[i] with
    | true =>
      simp only [he hp]
      rw [if_pos (by omega), lc_vals_at p q h k (i + 1) _ (by omega) (by simp; omega)]
      rw [hd, List.filter_cons, hp]
      simp only [if_true, List.map_cons, List.append_assoc, List.singleton_append]
    | false =>
      simp only []
      rw [lc_vals_at p q h k (i + 1) _ (by omega) (by omega), hd, List.filter_cons, hp]
      simp only [Bool.false_eq_true, if_false]
theorem lc_vals {ws : List W} {g : MG} {t : MT} {e : ME} {s : Slo} {st : Sto} (p : W → Bool) (q : W → W) (hl : ws.length ≤ sizeLine)
    (h : ∀ w ∈ ws, ∃ s2, g w s st = some (s2, st) ∧ t s2 st = .ok (p w) st ∧ (p w = true → e s2 st = .ok (q w) st)) :
    mLcLoop (.vals ws) g t e s ws.length 0 [] st = .ok ((ws.filter p).map q) st := by
  rw [lc_vals_at p q h _ 0 [] (by omega) (by simpa using hl)]
  simp
/-- a call's good end -/
@[simp] def Out.post {α : Type} (o : Out α) (P : α → Sto → Prop) : Prop := match o with
  | .ok a st => P a st
  | _ => False
theorem Out.post.get {α : Type} {o : Out α} {P : α → Sto → Prop} (h : o.post P) : ∃ a st, o = .ok a st ∧ P a st := by
  cases o with
  | ok a st => exact ⟨a, st, rfl, h⟩
  | exc c fs st => exact h.elim
  | stuck => exact h.elim
theorem atI_nn {α : Type} {xs : List α} {k : Int} {w : α} (h0 : 0 ≤ k) (h : xs[k.toNat]? = some w) : atI xs k = some w := by
  have hl : k.toNat < xs.length := (List.getElem?_eq_some_iff.mp h).1
  have h2 : ixN xs.length k = some k.toNat := by
    simp only [ixN, if_pos h0]
    rw [if_pos (by omega)]
  rw [atI, h2]
  exact h
@[simp] theorem shaped_int (i : Int) : SeqAt.shaped (.int i) = true := rfl
@[simp] theorem shaped_str (x : Str) : SeqAt.shaped (.str x) = PyData.strOk x := by simp [SeqAt.shaped, PyData.canLay0, PyData.depth]
@[simp] theorem shaped_bool (x : Bool) : SeqAt.shaped (.bool x) = true := rfl
@[simp] theorem shaped_none : SeqAt.shaped .none = true := rfl
@[simp] theorem eqv_ii (i j : Int) : PyData.eqv (.int i) (.int j) = decide (i = j) := by by_cases h : i = j <;> simp [PyData.eqv, h]
@[simp] theorem eqv_ss (i j : Str) : PyData.eqv (.str i) (.str j) = decide (i = j) := by by_cases h : i = j <;> simp [PyData.eqv, h]
@[simp] theorem eqv_bb (i j : Bool) : PyData.eqv (.bool i) (.bool j) = decide (i = j) := by by_cases h : i = j <;> simp [PyData.eqv, h]
@[simp] theorem eqv_nn : PyData.eqv .none .none = true := by simp [PyData.eqv]
@[simp] theorem eqv_is (i : Int) (j : Str) : PyData.eqv (.int i) (.str j) = false := by simp [PyData.eqv]
@[simp] theorem eqv_si (i : Int) (j : Str) : PyData.eqv (.str j) (.int i) = false := by simp [PyData.eqv]
@[simp] theorem eqv_in (i : Int) : PyData.eqv (.int i) .none = false := by simp [PyData.eqv]
@[simp] theorem eqv_ni (i : Int) : PyData.eqv .none (.int i) = false := by simp [PyData.eqv]
@[simp] theorem eqv_sn (i : Str) : PyData.eqv (.str i) .none = false := by simp [PyData.eqv]
@[simp] theorem eqv_ns (i : Str) : PyData.eqv .none (.str i) = false := by simp [PyData.eqv]
@[simp] theorem shaped_list (ds : List PyData) : SeqAt.shaped (.list ds) = (PyData.canLayAll0 ds && decide (PyData.depthAll ds + 1 ≤ 64)) := by simp [SeqAt.shaped, PyData.canLay0, PyData.depth]
@[simp] theorem shaped_tuple (ds : List PyData) : SeqAt.shaped (.tuple ds) = (PyData.canLayAll0 ds && decide (PyData.depthAll ds + 1 ≤ 64)) := by simp [SeqAt.shaped, PyData.canLay0, PyData.depth]
@[simp] theorem lay_nil : PyData.canLayAll0 [] = true := by simp [PyData.canLayAll0]
@[simp] theorem lay_cons (d : PyData) (ds : List PyData) : PyData.canLayAll0 (d :: ds) = (d.canLay0 && PyData.canLayAll0 ds) := by simp [PyData.canLayAll0]
@[simp] theorem lay_int (i : Int) : PyData.canLay0 (.int i) = true := by simp [PyData.canLay0]
@[simp] theorem lay_str (i : Str) : PyData.canLay0 (.str i) = PyData.strOk i := by simp [PyData.canLay0]
@[simp] theorem lay_bool (i : Bool) : PyData.canLay0 (.bool i) = true := by simp [PyData.canLay0]
@[simp] theorem lay_none : PyData.canLay0 .none = true := by simp [PyData.canLay0]
@[simp] theorem lay_tuple (ds : List PyData) : PyData.canLay0 (.tuple ds) = PyData.canLayAll0 ds := by simp [PyData.canLay0]
@[simp] theorem lay_list (ds : List PyData) : PyData.canLay0 (.list ds) = PyData.canLayAll0 ds := by simp [PyData.canLay0]
@[simp] theorem dep_nil : PyData.depthAll [] = 0 := by simp [PyData.depthAll]
@[simp] theorem dep_cons (d : PyData) (ds : List PyData) : PyData.depthAll (d :: ds) = max d.depth (PyData.depthAll ds) := by simp [PyData.depthAll]
@[simp] theorem dep_int (i : Int) : PyData.depth (.int i) = 0 := by simp [PyData.depth]
@[simp] theorem dep_str (i : Str) : PyData.depth (.str i) = 0 := by simp [PyData.depth]
@[simp] theorem dep_bool (i : Bool) : PyData.depth (.bool i) = 0 := by simp [PyData.depth]
@[simp] theorem dep_none : PyData.depth .none = 0 := by simp [PyData.depth]
@[simp] theorem dep_tuple (ds : List PyData) : PyData.depth (.tuple ds) = PyData.depthAll ds + 1 := by simp [PyData.depth]
@[simp] theorem dep_list (ds : List PyData) : PyData.depth (.list ds) = PyData.depthAll ds + 1 := by simp [PyData.depth]
@[simp] theorem eqv_ll (i j : List PyData) : PyData.eqv (.list i) (.list j) = PyData.eqvAll i j := by simp [PyData.eqv]
@[simp] theorem eqv_tt (i j : List PyData) : PyData.eqv (.tuple i) (.tuple j) = PyData.eqvAll i j := by simp [PyData.eqv]
@[simp] theorem eqvA_nn : PyData.eqvAll [] [] = true := by simp [PyData.eqvAll]
@[simp] theorem eqvA_cc (x y : PyData) (xs ys : List PyData) : PyData.eqvAll (x :: xs) (y :: ys) = (PyData.eqv x y && PyData.eqvAll xs ys) := by simp [PyData.eqvAll]
@[simp] theorem eqvA_nc (y : PyData) (ys : List PyData) : PyData.eqvAll [] (y :: ys) = false := by simp [PyData.eqvAll]
@[simp] theorem eqvA_cn (y : PyData) (ys : List PyData) : PyData.eqvAll (y :: ys) [] = false := by simp [PyData.eqvAll]
@[simp] theorem kit_NoneType_bool : kitB "NoneType" "bool" = some false := rfl
@[simp] theorem kit_NoneType_int : kitB "NoneType" "int" = some false := rfl
@[simp] theorem kit_NoneType_str : kitB "NoneType" "str" = some false := rfl
@[simp] theorem kit_NoneType_tuple : kitB "NoneType" "tuple" = some false := rfl
@[simp] theorem kit_NoneType_list : kitB "NoneType" "list" = some false := rfl
@[simp] theorem kit_NoneType_dict : kitB "NoneType" "dict" = some false := rfl
@[simp] theorem kit_bool_bool : kitB "bool" "bool" = some true := rfl
@[simp] theorem kit_bool_int : kitB "bool" "int" = some true := rfl
@[simp] theorem kit_bool_str : kitB "bool" "str" = some false := rfl
@[simp] theorem kit_bool_tuple : kitB "bool" "tuple" = some false := rfl
@[simp] theorem kit_bool_list : kitB "bool" "list" = some false := rfl
@[simp] theorem kit_bool_dict : kitB "bool" "dict" = some false := rfl
@[simp] theorem kit_int_bool : kitB "int" "bool" = some false := rfl
@[simp] theorem kit_int_int : kitB "int" "int" = some true := rfl
@[simp] theorem kit_int_str : kitB "int" "str" = some false := rfl
@[simp] theorem kit_int_tuple : kitB "int" "tuple" = some false := rfl
@[simp] theorem kit_int_list : kitB "int" "list" = some false := rfl
@[simp] theorem kit_int_dict : kitB "int" "dict" = some false := rfl
@[simp] theorem kit_str_bool : kitB "str" "bool" = some false := rfl
@[simp] theorem kit_str_int : kitB "str" "int" = some false := rfl
@[simp] theorem kit_str_str : kitB "str" "str" = some true := rfl
@[simp] theorem kit_str_tuple : kitB "str" "tuple" = some false := rfl
@[simp] theorem kit_str_list : kitB "str" "list" = some false := rfl
@[simp] theorem kit_str_dict : kitB "str" "dict" = some false := rfl
@[simp] theorem kit_tuple_bool : kitB "tuple" "bool" = some false := rfl
@[simp] theorem kit_tuple_int : kitB "tuple" "int" = some false := rfl
@[simp] theorem kit_tuple_str : kitB "tuple" "str" = some false := rfl
@[simp] theorem kit_tuple_tuple : kitB "tuple" "tuple" = some true := rfl
@[simp] theorem kit_tuple_list : kitB "tuple" "list" = some false := rfl
@[simp] theorem kit_tuple_dict : kitB "tuple" "dict" = some false := rfl
@[simp] theorem kit_list_bool : kitB "list" "bool" = some false := rfl
@[simp] theorem kit_list_int : kitB "list" "int" = some false := rfl
@[simp] theorem kit_list_str : kitB "list" "str" = some false := rfl
@[simp] theorem kit_list_tuple : kitB "list" "tuple" = some false := rfl
@[simp] theorem kit_list_list : kitB "list" "list" = some true := rfl
@[simp] theorem kit_list_dict : kitB "list" "dict" = some false := rfl
@[simp] theorem kit_dict_bool : kitB "dict" "bool" = some false := rfl
@[simp] theorem kit_dict_int : kitB "dict" "int" = some false := rfl
@[simp] theorem kit_dict_str : kitB "dict" "str" = some false := rfl
@[simp] theorem kit_dict_tuple : kitB "dict" "tuple" = some false := rfl
@[simp] theorem kit_dict_list : kitB "dict" "list" = some false := rfl
@[simp] theorem kit_dict_dict : kitB "dict" "dict" = some true := rfl
@[simp] theorem ofString_iff (a b : String) : Str.ofString a = Str.ofString b ↔ a = b := by
  constructor
  · intro h
    rw [Str.ofString_eq_toList, Str.ofString_eq_toList, Str.mk.injEq] at h
    have h1 : a.toList.map Char.toNat = b.toList.map Char.toNat := by simpa using h
    have h2 : a.toList = b.toList := List.map_inj_right (fun x y e => Char.toNat_inj.mp e) |>.mp h1
    exact String.toList_inj.mp h2
  · exact congrArg _
@[simp] theorem strOk_lit (a : String) : PyData.strOk (Str.ofString a) = true := by
  rw [Str.ofString_eq_toList]
  simp only [PyData.strOk]
  rw [Array.all_eq_true_iff_forall_mem]
  intro c hc
  simp at hc
  obtain ⟨x, hx, rfl⟩ := hc
  have h : x.val.toNat.isValidChar := x.valid
  have e : x.toNat = x.val.toNat := rfl
  rcases h with h | h
  · simp only [e, decide_eq_true_eq]; omega
  · simp only [e, decide_eq_true_eq]; omega
@[simp] theorem length_lit (a : String) : (Str.ofString a).length = a.length := by
  rw [Str.ofString_eq_toList]
  simp [Str.length, ← String.length_toList]
@[simp] theorem eqV_ss (i j : Str) : eqV (.str i) (.str j) = decide (i = j) := by by_cases h : i = j <;> simp [eqV, h]
@[simp] theorem eqV_ii (i j : Int) : eqV (.int i) (.int j) = decide (i = j) := by by_cases h : i = j <;> simp [eqV, h]
@[simp] theorem eqV_si (i : Str) (j : Int) : eqV (.str i) (.int j) = false := rfl
@[simp] theorem eqV_is (i : Str) (j : Int) : eqV (.int j) (.str i) = false := rfl
@[simp] theorem eqV_sn (i : Str) : eqV (.str i) .non = false := rfl
@[simp] theorem eqV_ns (i : Str) : eqV .non (.str i) = false := rfl
@[simp] theorem eqV_in (i : Int) : eqV (.int i) .non = false := rfl
@[simp] theorem eqV_ni (i : Int) : eqV .non (.int i) = false := rfl
@[simp] theorem eqV_nn : eqV .non .non = true := rfl
@[simp] theorem inV_nil (x : V) : inV x [] = false := rfl
@[simp] theorem inV_cons (x y : V) (ys : List V) : inV x (y :: ys) = (eqV y x || inV x ys) := rfl
@[simp] theorem toPys_ints : ∀ ns : List Int, toPys (ns.map W.int) = some (ns.map PyData.int)
  | [] => rfl
  | n :: ns => by simp [toPys, toPys_ints ns]
end Mi
/-! The mirror layer, part G: lists made into objects of the store, the methods of lists and tuples. -/
namespace Mi
open PySem L2
@[simp] def mListOfS : List W → Sto → Out W := fun xs st => match xs with
  | [.tup ws] => .ok (.ref st.length) (st ++ [.lst ws])
  | [x] => match asL x st with
    | some ws => .ok (.ref st.length) (st ++ [.lst ws])
    | none => .stuck
  | _ => .stuck
@[simp] def mAddS : M2 := fun x y st => match asLM x st, asLM y st with
  | some a, some b => if a.length + b.length ≤ sizeLine then .ok (.ref st.length) (st ++ [.lst (a ++ b)]) else .stuck
  | _, _ => .stuck
@[simp] def mLM (m : W → List W → Sto → Out W) (o : ME) (a : MA) : ME := fun s st => (o s st).bind fun x st1 => match asL x st1 with
  | some _ => (a s st1).bind fun xs st2 => m x xs st2
  | none => .stuck
def SMt (K : PySem.W.Frag) (Cl : Nat → Addr) (E : XK) (r : V → List V → Hp → VK → Prop) (m : W → List W → Sto → Out W) : Prop :=
  ∀ β H st x xs v vs Q, HR K Cl β H st → RV K β H x v → RVs K β H xs vs → Po K Cl E β H Q (m x xs st) → r v vs H Q
@[simp] def mApp : W → List W → Sto → Out W := fun x xs st => match x, xs with
  | .ref i, [y] => match st[i]? with
    | some (.lst ws) => if ws.length < sizeLine then .ok .non (st.set i (.lst (ws ++ [y]))) else .stuck
    | _ => .stuck
  | _, _ => .stuck
@[simp] def mIndex : W → List W → Sto → Out W := fun x xs st => match xs with
  | [y] => match asL x st with
    | some ws => if flatW y = true ∧ ws.all flatW = true then match ws.findIdx? (fun z => eqV (toV z) (toV y)) with
        | some j => .ok (.int (j : Nat)) st
        | none => .stuck
      else .stuck
    | none => .stuck
  | _ => .stuck
@[simp] def mTix (zs : List Str) (a : ME) : ME := fun s st => (a s st).bind fun y st1 => match y with
  | .str z => match zs.findIdx? (fun x => decide (x = z)) with
    | some j => .ok (.int (j : Nat)) st1
    | none => .stuck
  | _ => .stuck
/-- a tuple of texts of the module's top -/
structure GTp (K : PySem.W.Frag) (mg : Str → Option Value) (x : Str) (zs : List Str) : Prop where
  ex : ∃ (p : Addr) (o : Obj) (its : Array Value) (n : Nat), mg x = some (.ref p) ∧ K.lookup p = some o ∧ o.cls = .type "tuple" ∧ o.dict = none ∧ o.data = .seq its n ∧ its.size ≤ sizeLine ∧ Vals (zs.map V.str) its.toList
section
variable {X : Cx} {Cl : Nat → Addr} {E : XK}
theorem c_listS : CallR X (.type "list") (fun xs H Q => ∃ p ys, xs = [.ref p] ∧ (SqL X.K H p ys ∨ SqT X.K H p ys) ∧ ∀ l, H l = none → Q (.ref l) (upd H l (.lst ys))) ∧
    SCal X.K Cl E (fun xs H Q => ∃ p ys, xs = [.ref p] ∧ (SqL X.K H p ys ∨ SqT X.K H p ys) ∧ ∀ l, H l = none → Q (.ref l) (upd H l (.lst ys))) mListOfS := by
  refine ⟨call_list_of, fun β H st xs vs Q hr r h => ?_⟩
  unfold mListOfS at h
  split at h
  · obtain ⟨v, rfl, rv⟩ := r.one
    cases rv with
    | tup h1 r1 => exact ⟨_, _, rfl, .inr h1, fun l hl => Po.lstS h hr hl r1⟩
  · split at h
    · rename_i ws el
      obtain ⟨v, rfl, rv⟩ := r.one
      obtain ⟨p, vs, rfl, h1, r1⟩ := asL_ok hr rv el
      exact ⟨_, _, rfl, .inl h1, fun l hl => Po.lstS h hr hl r1⟩
    · exact h.elim
  · exact h.elim
theorem o_addS : OpR X (binaryOp .Add) rCat ∧ SOp X.K Cl E rCat mAddS := by
  refine ⟨op_cat, fun β H st x y v u Q hr rx ry h => ?_⟩
  unfold mAddS at h
  split at h
  · split at h
    · rename_i e1 e2 hz
      obtain ⟨p, vs, rfl, h1, r1⟩ := asLM_ok hr rx e1
      obtain ⟨q, us, rfl, h2, r2⟩ := asLM_ok hr ry e2
      exact ⟨p, q, vs, us, rfl, rfl, h1, h2, by rw [← r1.length, ← r2.length]; exact hz, fun l hl => Po.lstS h hr hl (r1.append r2)⟩
    · exact h.elim
  · exact h.elim
theorem m_app : MtR X "list.append" rAppend ∧ SMt X.K Cl E rAppend mApp := by
  refine ⟨mt_append, fun β H st x xs v vs Q hr rx rs h => ?_⟩
  unfold mApp at h
  split at h
  · split at h
    · rename_i ws es
      split at h
      · rename_i hz
        obtain ⟨a, rfl, hb, us, hv, hrs⟩ := rx.atRef hr es (by intro z; cases z)
        obtain ⟨u, rfl, ru⟩ := rs.one
        have em : Ext X.K β H β (upd H a (.lst (us ++ [u]))) := Ext.mut hr hb hv trivial
        refine ⟨a, us, u, rfl, rfl, hv, by rw [← hrs.length]; exact hz, h β _ .non em (hr.mut hb hv trivial ⟨_, upd_same, (hrs.append (.cons ru .nil)).ext em⟩) .non⟩
      · exact h.elim
    · exact h.elim
  · exact h.elim
theorem m_index : MtR X "list.index" (rIndex X.K) ∧ SMt X.K Cl E (rIndex X.K) mIndex := by
  refine ⟨mt_index, fun β H st x xs v vs Q hr rx rs h => ?_⟩
  unfold mIndex at h
  split at h
  · split at h
    · rename_i ws el
      split at h
      · rename_i hf
        split at h
        · rename_i j hj
          obtain ⟨u, rfl, ru⟩ := rs.one
          obtain ⟨p, us, rfl, h1, r1⟩ := asL_ok hr rx el
          obtain ⟨rfl, fu⟩ := flat_v ru hf.1
          obtain ⟨rfl, fus⟩ := flat_vs r1 hf.2
          obtain ⟨hl, he, hn⟩ := List.findIdx?_eq_some_iff_getElem.mp hj
          refine ⟨p, _, _, j, toV ws[j], rfl, rfl, h1, fu, fus, by simp [hl], he, fun m z hm hz => ?_, PoG.val h hr (.int _)⟩
          rw [List.getElem?_map, List.getElem?_eq_getElem (by omega)] at hz
          cases hz
          have := hn m hm
          simpa using this
        · exact h.elim
      · exact h.elim
    · exact h.elim
  · exact h.elim
theorem je_lm {o e : Expr} {es : List Expr} {name : Str} {id : String} {apos cpos : Pos} {r : V → List V → Hp → VK → Prop} {m : W → List W → Sto → Out W} {mo : ME} {mr : MA} (slot : Slot "list" name id) (hty : typeOf (.builtin id) = pure (.type "method_descriptor")) (hm : MtR X id r ∧ SMt X.K Cl E r m)
    (ho : JE X Cl E o mo) (ha : JA X Cl E (e :: es) mr)
    (hbase : attributeBase o name X.env (eval o X.env) = eval o X.env := by rfl)
    (hfew : ((backTo cpos (starEach (e :: es) X.env)).all (fun x => !x.1) && (backToKw cpos (keywordEach [] X.env)).all (fun x => x.1.isSome) && decide ((e :: es).length + ([] : List Keyword).length + (if ([] : List Keyword).isEmpty then 0 else 1) < 30)) = true := by rfl)
    (hline : (apos.endLine == cpos.line) = true := by rfl) (hs : starEach (e :: es) X.env = (false, eval e X.env) :: starEach es X.env := by rfl) (hplain : (backTo cpos (starEach es X.env)).any (·.1) = false := by rfl) :
    JE X Cl E (.Call (.Attribute o name apos) (e :: es) [] cpos) (mLM m mo mr) := by
  obtain ⟨_, p1, q1⟩ := ho.ex
  obtain ⟨_, p2, q2⟩ := ha.ex
  refine ⟨_, pe_bm F.plainAttrs_list slot hty hm.1 p1 p2 hbase hfew hline hs hplain, fun β H σ s st Q hr hs h => q1 β H σ s st _ hr hs (h.bind fun x st1 β1 H1 v _ e1 hr1 rx h1 => ?_)⟩
  split at h1
  · rename_i ws el
    obtain ⟨p, us, rfl, h2, r1⟩ := asL_ok hr1 rx el
    exact ⟨.inl ⟨rfl, _, h2⟩, q2 β1 H1 σ s st1 _ hr1 (hs.ext e1) (h1.bind fun xs st2 β2 H2 vs _ e2 hr2 rs h3 => hm.2 β2 H2 st2 x xs _ vs Q hr2 (rx.ext e2) rs h3)⟩
  · exact h1.elim
/-- T.index(e), T a tuple of texts of the module's top -/
theorem je_tix {x : Str} {zs : List Str} {e : Expr} {p apos cpos : Pos} {ma : ME} (g : GTp X.K X.mg x zs) (ha : JE X Cl E e ma) (hg : Gl X x := by rfl) (hd : (x == ("__debug__" : Str)) = false := by decide)
    (hbase : attributeBase (.Name x p) "index" X.env (eval (.Name x p) X.env) = eval (.Name x p) X.env := by rfl)
    (hfew : ((backTo cpos (starEach [e] X.env)).all (fun x => !x.1) && (backToKw cpos (keywordEach [] X.env)).all (fun x => x.1.isSome) && decide ([e].length + ([] : List Keyword).length + (if ([] : List Keyword).isEmpty then 0 else 1) < 30)) = true := by rfl)
    (hline : (apos.endLine == cpos.line) = true := by rfl) (hs : starEach [e] X.env = (false, eval e X.env) :: starEach [] X.env := by rfl) (hplain : (backTo cpos (starEach [] X.env)).any (·.1) = false := by rfl) :
    JE X Cl E (.Call (.Attribute (.Name x p) "index" apos) [e] [] cpos) (mTix zs ma) := by
  obtain ⟨_, p1, q1⟩ := ha.ex
  obtain ⟨a, o, its, n, hm, hk, hc, hdd, hdt, hz, hv⟩ := g.ex
  refine ⟨_, pe_bm F.plainAttrs_tuple F.slot_tuple_index F.type_tuple_index mt_tup_index (pe_glob (v := .ref a) hg hm rfl hd) (pa_cons p1 pa_nil hs) hbase hfew hline hs hplain, fun β H σ s st Q hr hs h => ?_⟩
  refine ⟨.inr (.inl ⟨rfl, o, hk, hc, hdd⟩), q1 β H σ s st _ hr hs (h.bind fun y st1 β1 H1 v _ e1 hr1 ry h1 => ?_)⟩
  cases y with
  | str z =>
    simp only at h1
    split at h1
    · rename_i j hj
      cases ry
      obtain ⟨hl, he, hn⟩ := List.findIdx?_eq_some_iff_getElem.mp hj
      refine ⟨a, zs, z, j, rfl, rfl, .inr ⟨o, its, n, hk, hc, hdt, hz, hv⟩, ?_, fun m hm2 hz2 => ?_, PoG.val h1 hr1 (.int _)⟩
      · rw [List.getElem?_eq_getElem hl]
        simpa using he
      · obtain ⟨hl2, e2⟩ := List.getElem?_eq_some_iff.mp hz2
        have := hn m hm2
        rw [e2] at this
        simp at this
    · exact h1.elim
  | _ => exact h1.elim
/-- o.f as a target -/
def gFld (K : PySem.W.Frag) (to : TE) (f : Str) : TG := fun y σ H Q => to σ H fun x H2 => ∃ a C dx fs, x = .ref a ∧ H2 a = some (.ins C dx fs) ∧ Cls K C ∧ NoAttr K C f ∧ fs.length < 1000 ∧ Q σ (upd H2 a (.ins C dx (putF f y fs)))
theorem pg_fld {o : Expr} {to : TE} {f : Str} {pos : Pos} (ho : PE X o to)
    : PG X (.Attribute o f pos) (gFld X.K to f) := by
  refine ⟨fun pins s σ H v u Q I r h => ?_⟩
  rw [assign_Attribute]
  refine wpAny_bind (wpAny_holding (thn (ho.run pins s σ H _ I h) fun ov s1 ⟨x, H1, I1, r1, a, C, dx, fs, ex, ea, c, n, l, q1⟩ => ?_))
  subst ex
  obtain rfl : ov = Value.ref a := r1
  refine wpAny_bind (wpAny_standAt (wpAny_bind (wpAny_holding ?_)))
  exact setattr_ok I1 ea c n l r fun s3 I3 => wpAny_release ⟨σ, _, I3, q1⟩
theorem jg_fld {o : Expr} {ma : ME} {c : Nat} {f : Str} {pos : Pos} (hc : Cls X.K (Cl c)) (hn : NoAttr X.K (Cl c) f) (ho : JE X Cl E o ma) : JG X Cl (.Attribute o f pos) (mGFld c f ma) := by
  obtain ⟨_, p1, q1⟩ := ho.ex
  refine ⟨_, pg_fld p1, fun β H σ s st w v Q hr hs rw h => q1 β H σ s st _ hr hs ?_⟩
  unfold mGFld at h
  cases e1 : ma s st with
  | exc c fs x => rw [e1] at h; exact h.elim
  | stuck => rw [e1] at h; exact h.elim
  | ok x st1 =>
    rw [e1] at h
    intro β1 H1 v1 x1 hr1 rx
    simp only at h
    split at h
    · rename_i r
      split at h
      · rename_i d fs es
        split at h
        · rename_i hd
          obtain ⟨rfl, hl⟩ := hd
          obtain ⟨a, rfl, hb, dx, gs, hv, hrs⟩ := rx.atRef hr1 es (by intro z; cases z)
          have em : Ext X.K β1 H1 β1 (upd H1 a (.ins (Cl d) dx (putF f v gs))) := Ext.mut hr1 hb hv trivial
          exact ⟨a, _, dx, gs, rfl, hv, hc, hn, by rw [← hrs.length]; exact hl, h β1 _ σ (x1.trans em) (hr1.mut hb hv trivial ⟨dx, _, upd_same, (putW_ok (rw.ext x1) hrs).ext em⟩) ((hs.ext x1).ext em)⟩
        · exact h.elim
      · exact h.elim
    · exact h.elim
/-- range(i, j, c) -/
@[simp] def mIRngC (a : MA) : MI := fun s st => (a s st).bind fun xs st1 => match xs with
  | [.int i, .int j, .int c] => if c ≠ 0 ∧ c.natAbs < 1073741824 ∧ Builtin.Range.small i j c = true ∧ 0 ≤ Builtin.Range.rangeSize i j c then .ok (.vals ((List.range (Builtin.Range.rangeSize i j c).toNat).map fun k => .int (i + (k : Nat) * c))) st1 else .stuck
  | _ => .stuck
theorem vals_three {K : PySem.W.Frag} {β : Bt} {H : Hp} {a b c : W} {vs : List V} (r : RVs K β H [a, b, c] vs) : ∃ x y z, vs = [x, y, z] ∧ RV K β H a x ∧ RV K β H b y ∧ RV K β H c z := by
  cases r with
  | cons r1 r => cases r with
    | cons r2 r => cases r with
      | cons r3 r => cases r; exact ⟨_, _, _, rfl, r1, r2, r3⟩
theorem ji_rngC {tg a b c : Expr} {p pos : Pos} {mr : MA} (hm : X.mg "range" = none) (ha : JA X Cl E [a, b, c] mr) (hg : Gl X "range" := by rfl)
    (hs : starEach [a, b, c] X.env = (false, eval a X.env) :: starEach [b, c] X.env := by rfl) (hpl : (backTo pos (starEach [b, c] X.env)).any (·.1) = false := by rfl) : JI X Cl E tg (.Call (.Name "range" p) [a, b, c] [] pos) (mIRngC mr) := by
  obtain ⟨t, pr, q⟩ := ha.ex
  refine ⟨_, pi_range3 hg hm pr hs hpl, fun β H σ s st R hr hs h => q β H σ s st _ hr hs (Out.bindI h fun x st1 β1 H1 v _ e1 hr1 rx h1 => ?_)⟩
  split at h1
  · split at h1
    · rename_i hz
      obtain ⟨u, w, y, rfl, ru, rw', ry⟩ := vals_three rx
      cases ru; cases rw'; cases ry
      exact ⟨_, _, _, _, rfl, ⟨hz.1, hz.2.1, hz.2.2.1, by have := hz.2.2.2; omega⟩, h1 β1 H1 _ (Ext.refl _ _ _) hr1 walkS_rngC⟩
    · exact h1.elim
  · exact h1.elim
/-- a statement that is never come to -/
@[simp] def mDead : MS := fun _ _ => .stuck
theorem js_dead {x : Stmt} : JS X Cl E x mDead := ⟨fun _ _ _ => False, ⟨fun _ _ _ _ _ _ h => h.elim⟩, fun _ _ _ _ _ _ _ _ h => h⟩
end
end Mi
/-! The mirror layer, part H: all, any, sum. -/
namespace Mi
open PySem L2
@[simp] def boolsW : List W → Option (List Bool)
  | [] => some []
  | .bl b :: ws => (boolsW ws).map (b :: ·)
  | _ => none
@[simp] def intsW : List W → Option (List Int)
  | [] => some []
  | .int b :: ws => (intsW ws).map (b :: ·)
  | _ => none
@[simp] def mAll : List W → Sto → Out W := fun xs st => match xs with
  | [x] => match asL x st with
    | some ws => match boolsW ws with
      | some bs => .ok (.bl (bs.all id)) st
      | none => .stuck
    | none => .stuck
  | _ => .stuck
@[simp] def mAny : List W → Sto → Out W := fun xs st => match xs with
  | [x] => match asL x st with
    | some ws => match boolsW ws with
      | some bs => .ok (.bl (bs.any id)) st
      | none => .stuck
    | none => .stuck
  | _ => .stuck
@[simp] def mSum : List W → Sto → Out W := fun xs st => match xs with
  | [x] => match asL x st with
    | some ws => match intsW ws with
      | some bs => .ok (.int bs.sum) st
      | none => .stuck
    | none => .stuck
  | _ => .stuck
section
variable {K : PySem.W.Frag} {β : Bt} {H : Hp}
theorem boolsW_ok : ∀ {ws : List W} {vs : List V} {bs : List Bool}, RVs K β H ws vs → boolsW ws = some bs → vs = bs.map V.bl
  | _, _, _, .nil, h => by cases h; rfl
  | _, _, _, .cons (w := w) (ws := ws) r rr, h => by
    cases w with
    | bl b =>
      simp only [boolsW, Option.map_eq_some_iff] at h
      obtain ⟨cs, h1, rfl⟩ := h
      cases r
      rw [boolsW_ok rr h1]; rfl
    | _ => cases h
theorem intsW_ok : ∀ {ws : List W} {vs : List V} {bs : List Int}, RVs K β H ws vs → intsW ws = some bs → vs = bs.map V.int
  | _, _, _, .nil, h => by cases h; rfl
  | _, _, _, .cons (w := w) (ws := ws) r rr, h => by
    cases w with
    | int b =>
      simp only [intsW, Option.map_eq_some_iff] at h
      obtain ⟨cs, h1, rfl⟩ := h
      cases r
      rw [intsW_ok rr h1]; rfl
    | _ => cases h
end
section
variable {X : Cx} {Cl : Nat → Addr} {E : XK}
theorem c_all (hc : X.calm = true) : CallR X (.builtin "all") (rAll X.K) ∧ SCal X.K Cl E (rAll X.K) mAll := by
  refine ⟨cr_all hc, fun β H st xs vs Q hr r h => ?_⟩
  unfold mAll at h
  split at h
  · split at h
    · rename_i ws el
      split at h
      · rename_i bs hb
        obtain ⟨v, rfl, rv⟩ := r.one
        obtain ⟨p, us, rfl, h1, r1⟩ := asL_ok hr rv el
        have e := boolsW_ok r1 hb
        subst e
        exact ⟨p, bs, rfl, h1, PoG.val h hr (.bl _)⟩
      · exact h.elim
    · exact h.elim
  · exact h.elim
theorem c_any (hc : X.calm = true) : CallR X (.builtin "any") (rAny X.K) ∧ SCal X.K Cl E (rAny X.K) mAny := by
  refine ⟨cr_any hc, fun β H st xs vs Q hr r h => ?_⟩
  unfold mAny at h
  split at h
  · split at h
    · rename_i ws el
      split at h
      · rename_i bs hb
        obtain ⟨v, rfl, rv⟩ := r.one
        obtain ⟨p, us, rfl, h1, r1⟩ := asL_ok hr rv el
        have e := boolsW_ok r1 hb
        subst e
        exact ⟨p, bs, rfl, h1, PoG.val h hr (.bl _)⟩
      · exact h.elim
    · exact h.elim
  · exact h.elim
theorem c_sum (hc : X.calm = true) : CallR X (.builtin "sum") (rSum X.K) ∧ SCal X.K Cl E (rSum X.K) mSum := by
  refine ⟨cr_sum hc, fun β H st xs vs Q hr r h => ?_⟩
  unfold mSum at h
  split at h
  · split at h
    · rename_i ws el
      split at h
      · rename_i bs hb
        obtain ⟨v, rfl, rv⟩ := r.one
        obtain ⟨p, us, rfl, h1, r1⟩ := asL_ok hr rv el
        have e := intsW_ok r1 hb
        subst e
        exact ⟨p, bs, rfl, h1, PoG.val h hr (.int _)⟩
      · exact h.elim
    · exact h.elim
  · exact h.elim
end
section
variable {X : Cx} {Cl : Nat → Addr} {E : XK}
/-- statements that are never come to -/
theorem jss_dead {x : List Stmt} : JSs X Cl E x mDead := ⟨fun _ _ _ => False, ⟨fun _ _ _ _ _ _ h => h.elim⟩, fun _ _ _ _ _ _ _ _ h => h⟩
end
end Mi
/-! The mirror layer, part I: enumerate over a list or a tuple. -/
namespace Mi
open PySem L2
theorem meets_enum1 {v : Value} {o : Obj} {H : Heap → Prop} (B : Begins v o H) :
    Meets (Builtin.«enumerate.__new__» ⟨[.type "enumerate", v], []⟩) (fun _ R s => H s.heap ∧
      R (.ok (.ret (.ref (s.heap.push o).objs.size))) { s with heap := (s.heap.push o).push { cls := .type "enumerate", data := .fields #[.none, .bool false, .ref s.heap.objs.size, rawInt 0, .none, .none] } }) :=
  .of_wp fun prog w A R s h => by
    obtain ⟨hp, g, d, tk, os⟩ := s; obtain ⟨h1, h⟩ := h
    have hsub := sub_enumerate
    have q1 : ∀ {A' : Around} {E : Value → Shared → Prop} {Q : Value → Shared → Prop}, Q (.ref hp.objs.size) ⟨hp.push o, g, d, tk, os⟩ → wpAny (model prog w) A' (pyIter v) Q E ⟨hp, g, d, tk, os⟩ :=
      fun q => B.iter prog w _ _ ⟨hp, g, d, tk, os⟩ _ h1 q
    wp_walk using q1
    refine wpAny_stack_any fun st => wpAny_pure ?_
    split
    · rename_i c _ _ _ _ _
      cases (c == Value.type "enumerate")
      · wp_walk using q1
        exact ⟨_, rfl, h⟩
      · wp_walk using q1
        exact ⟨_, rfl, h⟩
    · wp_walk using q1
      exact ⟨_, rfl, h⟩
section
variable {prog : Program} {w : World} {A : Around} {E : Value → Shared → Prop} {s : Shared}
theorem enum_begins1 {v : Value} {o : Obj} {H : Heap → Prop} {Q : Value → Shared → Prop} (B : Begins v o H) (h1 : H s.heap)
    (h : ∀ h', IsEnum h' (s.heap.objs.size + 1) s.heap.objs.size 0 .none → h'.get? s.heap.objs.size = some o → h'.objs.size = s.heap.objs.size + 2 →
      (∀ b o, s.heap.get? b = some o → h'.get? b = some o) → Q (.ref (s.heap.objs.size + 1)) { s with heap := h' }) :
    wpAny (model prog w) A (call (.type "enumerate") [v]) Q E s := by
  refine callType_new F.called_enumerate (by decide) (F.typeCall_enumerate_1 _) (F.newCall_enumerate_1 _) (fun obj => F.args_object_init_2 obj _) F.entry_enumerate_new
    (meets_enum1 B) ⟨h1, ?_⟩
  have hz : (s.heap.push o).objs.size = s.heap.objs.size + 1 := Heap.size_push ..
  show _ ∧ _
  rw [hz]
  have he : IsEnum ((s.heap.push o).push
      { cls := .type "enumerate", data := .fields #[.none, .bool false, .ref s.heap.objs.size, rawInt 0, .none, .none] }) (s.heap.objs.size + 1) s.heap.objs.size 0 .none := by
    have := Heap.get?_push_size (s.heap.push o)
      (o := { cls := .type "enumerate", data := .fields #[.none, .bool false, .ref s.heap.objs.size, rawInt 0, .none, .none] }) rfl
    rw [hz] at this; exact this
  exact ⟨⟨_, he, rfl⟩, h _ he (Heap.get?_push_of_some _ (Heap.get?_push_size _ B.free)) (by rw [Heap.size_push, hz]) fun b o x => Heap.get?_push_of_some _ (Heap.get?_push_of_some _ x)⟩
end
/-- the tuple at a, the items in new pairs -/
def IteT (K : PySem.W.Frag) (a : Addr) : It :=
  ⟨fun i H => ∃ (xs : List V) (x : V), SqT K H a xs ∧ xs[i]? = some x, fun i H v H' => ∃ T x, v = .ref T ∧ H T = none ∧ H' = upd H T (.tup [.int (i : Nat), x]) ∧ ∀ xs, SqT K H a xs → xs[i]? = some x, fun i H => ∃ xs : List V, SqT K H a xs ∧ xs.length ≤ i⟩
theorem turn_enumT {P : Program} {w : World} {K : PySem.W.Frag} {elts : List Expr} {kk : Nat} {tpos : Pos} (a e it : Addr) (hat : a ≠ it) (hae : a ≠ e) :
    Turn P w K (.Tuple elts kk tpos) (IteT K a) [e, it] e (fun i h => (∃ old, IsEnum h e it ((i : Nat) : Int) old) ∧ h.IsTupleIter it a i ∧ e ≠ it) where
  mem := by simp
  obj := fun i h st b hb => by
    obtain ⟨⟨old, he⟩, ⟨o, ho, hc, hd⟩, _⟩ := st
    have e' : b = e ∨ b = it := by simpa using hb
    rcases e' with z | z
    · rw [z]; exact ⟨_, he, fun v q => nomatch q⟩
    · rw [z]; exact ⟨o, ho, fun v q => by rw [hd] at q; cases q⟩
  keep := fun i h h' st k => let ⟨⟨old, he⟩, hi, hne⟩ := st; ⟨⟨old, k e (by simp) _ he⟩, hi.at fun o q => k it (by simp) o q, hne⟩
  item := by
    intro X hP hw hK hc i pins s σ H E I hf st hg
    subst hP hw hK
    obtain ⟨⟨old, he⟩, hit, hne⟩ := st
    obtain ⟨xs, x, hq, hx⟩ := hg
    obtain ⟨its, rv, p, hz⟩ := I.tuple hq
    obtain ⟨u, hu, ru⟩ := rv.get hx
    have hel : e < s.heap.objs.size := Heap.lt_size he
    have hil : it < s.heap.objs.size := by obtain ⟨_, q, _⟩ := hit; exact Heap.lt_size q
    have hi' : i < its.toArray.size := by
      have := (List.getElem?_eq_some_iff.mp hu).1
      simpa using this
    refine wpAny_pyNext_enum_itemD (Draws.tuple (show X.A.in1.handled = none from I.ok.hd hc) it a hat its.toArray) he ⟨hit, show s.heap.IsTuple a its.toArray from p⟩ hi' hne (by simp [hne, Ne.symm hae]) fun y h' tk hy ho hit' hT hsz hk => ?_
    have hyu : y = u := by
      have z : its[i]? = some y := by simpa using hy
      rw [hu] at z
      exact (Option.some.inj z).symm
    subst hyu
    refine ⟨_, rfl, wpAny_letOwnedTupleGo_enum (s := { s with heap := h', toks := tk + 1 }) ho fun h'' he' sb => ?_⟩
    have hT2 : h''.get? s.heap.objs.size = some { cls := .type "tuple", data := .seq #[.int i tk, y] } := (sb.2 _ (Nat.ne_of_gt hel)).trans hT
    have new : ObjOk X.prog X.w (upd H s.heap.objs.size (.tup [.int (i : Nat), x])) h'' s.heap.objs.size (.tup [.int (i : Nat), x]) :=
      ⟨by show 2 ≤ sizeLine; decide, [.int i tk, y], .cons ⟨_, rfl⟩ (.cons ru .nil), ⟨_, hT2, rfl, _, rfl⟩⟩
    have I1 : Inv X pins σ (upd H s.heap.objs.size (.tup [.int (i : Nat), x])) { s with heap := h'', toks := tk + 1 } :=
      I.turnedNew (ch := [e, it]) (fun b ob hb q => (sb.2 b (fun z => hb (by simp [z]))).trans (hk b ob (fun z => hb (by simp [z])) (fun z => hb (by simp [z])) q)) hf (Nat.le_refl _) new
    refine ⟨.ref s.heap.objs.size, _, I1, rfl, ⟨_, x, rfl, I.hok.fresh (Nat.le_refl _), rfl, fun ys hy => by rw [I.tuple_inj hy hq]; exact hx⟩, ⟨⟨y, ?_⟩, hit'.1.at fun o q => (sb.2 it (Ne.symm hne)).trans q, hne⟩, fun b hb => ?_⟩
    · have e1 : ((i + 1 : Nat) : Int) = (i : Int) + 1 := by omega
      rw [e1]; exact he'
    · have hb' : b < s.heap.objs.size := by
        have e' : b = e ∨ b = it := by simpa using hb
        rcases e' with z | z
        · rw [z]; exact hel
        · rw [z]; exact hil
      rw [upd_ne (Nat.ne_of_lt hb')]
      exact (hf b hb).1
  done := by
    intro X hP hw hK hc i pins s σ H E I hf st hg
    subst hP hw hK
    obtain ⟨⟨old, he⟩, hit, hne⟩ := st
    obtain ⟨xs, hq, hx⟩ := hg
    obtain ⟨its, rv, p, hz⟩ := I.tuple hq
    obtain ⟨f0, f1, f2, f3, f4, f5⟩ := hf it (by simp)
    have hl := rv.length
    have hT : s.TypeIs (.ref e) "enumerate" := ⟨_, he, rfl⟩
    unfold pyNext
    refine wpAny_bind (wpAny_attempt (wpAny_callSpecial?_slot (name := Str.ofString "__next__") hT F.slot_enumerate_next
      (wpAny_call_entry F.slot_enumerate_next hT F.entry_enumerate_next ?_ (F.args_enumerate_next_1 _))))
    show wpAny _ _ (field (.ref e) 2 >>= _) _ _ _
    refine wpAny_bind (wpAny_field he rfl (x := .ref it) rfl ?_)
    refine wpAny_bind (wpAny_nextOf_tuple_end (show X.A.in1.handled = none from I.ok.hd hc) hit (show s.heap.IsTuple a its.toArray from p) (by simp; omega) fun h' x he' hx' => ?_)
    obtain ⟨o, ho, hc⟩ := hx'
    refine wpAny_bind (wpAny_isInstance (T := "StopIteration") (b := true) ⟨o, ho, hc⟩ isSubtype_stop ?_)
    exact wpAny_pure ⟨rfl, I.turned (t' := s.toks) (fun b o hb q => he' b o hb q) f0 f1 f3 f4 f5⟩
  self := fun A i s Q E st h => let ⟨⟨_, he⟩, _⟩ := st; wpAny_pyIter_enum he h
theorem walk_enumT {K : PySem.W.Frag} {a : Addr} {xs : List V} : Walk (IteT K a) xs.length (fun H => SqT K H a xs) (YPair (fun i => some (.int (i : Nat))) (fun i => xs[i]?)) := by
  refine ⟨fun i _ hi q => ⟨xs, xs[i], q, by simp [hi]⟩, fun _ q => ⟨xs, q, Nat.le_refl _⟩, fun i H v H' _ q y => ?_⟩
  obtain ⟨T, x, h1, h2, h3, h4⟩ := y
  exact ⟨T, .int (i : Nat), x, h1, h2, h3, rfl, h4 xs q⟩
def iEnumB (K : PySem.W.Frag) (ta : TA) : TI := fun σ H R => ta σ H fun vs H1 => ∃ a, vs = [.ref a] ∧ ((∃ xs, SqL K H1 a xs ∧ R (Ite K a) H1) ∨ ∃ xs, SqT K H1 a xs ∧ R (IteT K a) H1)
open PyProof.Rows in
theorem pi_enumB {X : Cx} {e : Expr} {ta : TA} {p pos tpos : Pos} {elts : List Expr} {kk : Nat} (hg : Gl X "enumerate") (hm : X.mg "enumerate" = none) (ha : PA X [e] ta) (hs : starEach [e] X.env = [(false, eval e X.env)] := by rfl) :
    PI X (.Tuple elts kk tpos) (.Call (.Name "enumerate" p) [e] [] pos) (iEnumB X.K ta) := by
  refine ⟨fun pins s σ H R I h => ?_⟩
  refine Call_ (ld_blt I hg hm boot_enumerate (PyProof.Rows.callWith_type1 (thn (ha.run pos pins s σ H _ I h) fun us s1 ⟨vs, H1, I1, r1, q1⟩ => ?_) hs rfl))
  obtain ⟨a, ex, q1⟩ := q1
  subst ex
  have fp : ∀ {h' : Heap} (I2 : Inv X pins σ H1 { s1 with heap := h' }), ∀ b ∈ [s1.heap.objs.size + 1, s1.heap.objs.size], s1.heap.objs.size ≤ b := fun _ b hb => by
    have e' : b = s1.heap.objs.size + 1 ∨ b = s1.heap.objs.size := by simpa using hb
    rcases e' with z | z
    · rw [z]; exact Nat.le_add_right _ _
    · rw [z]; exact Nat.le_refl _
  cases r1 with
  | cons r rr =>
    cases rr
    cases r
    rcases q1 with ⟨xs, hq, q⟩ | ⟨xs, hq, q⟩
    · obtain ⟨its, rv, p', hz⟩ := I1.list hq
      refine call_enumerate_list p'.isList fun h' he hit hsz hk => wpAny_pyIter_enum he ?_
      have I2 : Inv X pins σ H1 { s1 with heap := h' } := I1.kept (t' := s1.toks) hk
      refine ⟨s1.heap.objs.size + 1, [s1.heap.objs.size + 1, s1.heap.objs.size], _, _, H1, rfl, I2, turn_enum a (s1.heap.objs.size + 1) s1.heap.objs.size, ⟨⟨.none, he⟩, hit, Nat.succ_ne_self _⟩, fun b hb => ?_, q⟩
      have hle := fp I2 b hb
      exact I1.fpOk hle (I1.hok.fresh hle)
    · obtain ⟨its, rv, p', hz⟩ := I1.tuple hq
      have hal : a < s1.heap.objs.size := by obtain ⟨_, z, _⟩ := p'; exact Heap.lt_size z
      refine enum_begins1 (begins_tuple a its.toArray) p' fun h' he hit hsz hk => wpAny_pyIter_enum he ?_
      have I2 : Inv X pins σ H1 { s1 with heap := h' } := I1.kept (t' := s1.toks) hk
      refine ⟨s1.heap.objs.size + 1, [s1.heap.objs.size + 1, s1.heap.objs.size], _, _, H1, rfl, I2, turn_enumT a (s1.heap.objs.size + 1) s1.heap.objs.size (Nat.ne_of_lt hal) (Nat.ne_of_lt (Nat.lt_succ_of_lt hal)), ⟨⟨.none, he⟩, ⟨_, hit, rfl, rfl⟩, Nat.succ_ne_self _⟩, fun b hb => ?_, q⟩
      have hle := fp I2 b hb
      exact I1.fpOk hle (I1.hok.fresh hle)
@[simp] def mIEnum2 (a : MA) : MI := fun s st => (a s st).bind fun xs st1 => match xs with
  | [.lst ws] => .ok (.vals ((List.range ws.length).map fun i => .tup [.int (i : Nat), ws.getD i .non])) st1
  | [.xst ws] => .ok (.vals ((List.range ws.length).map fun i => .tup [.int (i : Nat), ws.getD i .non])) st1
  | [.tup ws] => .ok (.vals ((List.range ws.length).map fun i => .tup [.int (i : Nat), ws.getD i .non])) st1
  | _ => .stuck
section
variable {X : Cx} {Cl : Nat → Addr} {E : XK}
theorem walkS_en {K : PySem.W.Frag} {β : Bt} {H : Hp} {J : It} {G : Hp → Prop} {ws : List W} {vs : List V} (wk : Walk J vs.length G (YPair (fun i => some (.int (i : Nat))) (fun i => vs[i]?))) (hG : ∀ β' H', Ext K β H β' H' → G H') (r : RVs K β H ws vs) :
    WalkS K Cl β H J (.vals ((List.range ws.length).map fun i => .tup [.int (i : Nat), ws.getD i .non])) := by
  refine ⟨G, _, (show Walk J ((List.range ws.length).map fun i => W.tup [.int (i : Nat), ws.getD i .non]).length _ _ from by rw [List.length_map, List.length_range, r.length]; exact wk), fun β' H' st e hr _ => hG β' H' e, fun i H1 x H2 β1 st w e hr hw y => ?_⟩
  obtain ⟨T, a, b, rfl, hT, rfl, ha, hb⟩ := y
  have hw' : ((List.range ws.length).map fun i => W.tup [.int (i : Nat), ws.getD i .non])[i]? = some w := hw
  rw [List.getElem?_map] at hw'
  by_cases hi : i < ws.length
  · rw [List.getElem?_range hi] at hw'
    cases hw'
    cases ha
    obtain ⟨v, hv, rv⟩ := r.get (show ws[i]? = some ws[i] from List.getElem?_eq_getElem hi)
    have hb' : vs[i]? = some b := hb
    have hbv : b = v := by rw [hb'] at hv; exact Option.some.inj hv
    subst hbv
    have eg : ws.getD i .non = ws[i] := by simp [List.getD, hi]
    refine ⟨Ext.new hT, hr.new hT, ?_⟩
    show RV K β1 _ (W.tup [W.int (i : Nat), ws.getD i W.non]) (V.ref T)
    rw [eg]
    exact RV.newT hT (.cons (.int _) (.cons (rv.ext e) .nil))
  · rw [List.getElem?_eq_none (by simp; omega)] at hw'
    cases hw'
theorem ji_enum {e : Expr} {mr : MA} {p pos tpos : Pos} {elts : List Expr} {kk : Nat} (hm : X.mg "enumerate" = none) (ha : JA X Cl E [e] mr) (hg : Gl X "enumerate" := by rfl) (hs : starEach [e] X.env = [(false, eval e X.env)] := by rfl) :
    JI X Cl E (.Tuple elts kk tpos) (.Call (.Name "enumerate" p) [e] [] pos) (mIEnum2 mr) := by
  obtain ⟨t, pr, q⟩ := ha.ex
  refine ⟨_, pi_enumB hg hm pr hs, fun β H σ s st R hr hs h => q β H σ s st _ hr hs (Out.bindI h fun x st1 β1 H1 v _ e1 hr1 rx h1 => ?_)⟩
  split at h1
  · obtain ⟨u, rfl, ru⟩ := rx.one
    cases ru with
    | lst hv hn r1 => exact ⟨_, rfl, .inl ⟨_, SqL.of hv, h1 β1 H1 _ (Ext.refl _ _ _) hr1 (walkS_en walk_enum (fun β' H' e => SqL.of (e.lst _ _ hv hn).1) r1)⟩⟩
  · obtain ⟨u, rfl, ru⟩ := rx.one
    cases ru with
    | xst hv r1 => exact ⟨_, rfl, .inl ⟨_, KL.sq hv, h1 β1 H1 _ (Ext.refl _ _ _) hr1 (walkS_en walk_enum (fun β' H' e => KL.sq (hv.imp (fun x => x) fun ⟨o, x⟩ => ⟨o, e.frz _ _ _ x⟩)) r1)⟩⟩
  · obtain ⟨u, rfl, ru⟩ := rx.one
    cases ru with
    | tup hv r1 => exact ⟨_, rfl, .inr ⟨_, hv, h1 β1 H1 _ (Ext.refl _ _ _) hr1 (walkS_en walk_enumT (fun β' H' e => e.tup _ _ hv) r1)⟩⟩
  · exact h1.elim
end
end Mi
/-! The mirror layer, part J: dicts with tuple keys. -/
namespace Mi
open PySem PySem.W PySem.Calls PyProof.Rows PyProof.V PySem.Spec L2

section
variable {X : Cx}
def rSetdefT : V → List V → Hp → VK → Prop := fun x xs H Q => ∃ (a : Addr) (kvs : List (List L2.Key × V)) (k : List L2.Key) (b : Addr) (d : V), x = .ref a ∧ xs = [.ref b, d] ∧ H a = some (.dT kvs) ∧ H b = some (.tup (k.map kV)) ∧ kvs.length < sizeLine ∧
  (∀ v, valV kvs k = some v → Q v H) ∧ (valV kvs k = none → Q d (upd H a (.dT (putK kvs k d))))
theorem mt_setdefT (hu : X.A.units + 1 < cLine) : MtR X "dict.setdefault" rSetdefT := by
  intro pins s σ H x xs v us Q I rx rxs h
  obtain ⟨a, kvs, k, b, d, rfl, rfl, ha, hb, hlt, q1, q2⟩ := h
  cases rx
  obtain ⟨u1, u2, rfl, r1, r2⟩ := vals2 rxs
  cases r1
  obtain ⟨z, hd, xs', rel, dd⟩ := dt_of I.hok ha
  have hz : xs'.length ≤ sizeLine := by rw [← Paired.length rel]; exact z
  refine call_meetsIn PySem.F.slot_dict_setdefault dd.typeIs PySem.F.entry_dict_setdefault (PySem.F.args_dict_setdefault_3 _ _ _) (meetsH_dict_setdefault (tupleKind (mixKind X.prog X.w)) a b hd u2)
    ⟨tupleKind_room_in1 hu, k, xs', key_of I.hok hb, dd, hz, fun p hp => ?_, fun hn h' dd' hs => ?_⟩
  · have r := rel.val k
    rw [hp] at r
    obtain ⟨v0, ev, rv⟩ : ∃ v0, valV kvs k = some v0 ∧ RelV v0 p.2 := by
      cases ev : valV kvs k with
      | none =>
        rw [ev] at r
        exact (show False from r).elim
      | some v0 =>
        rw [ev] at r
        exact ⟨v0, rfl, r⟩
    show EP X pins σ Q p.2 _
    exact ⟨v0, H, I.tok _, rv, q1 v0 ev⟩
  · have r := rel.val k
    rw [hn] at r
    have e : valV kvs k = none := by
      cases ev : valV kvs k with
      | none => rfl
      | some v0 =>
        rw [ev] at r
        exact (show False from r).elim
    obtain ⟨o, es, ep, hq, h2, h3, h4, _, h5⟩ := dd'
    have hl : (putK kvs k d).length ≤ sizeLine := by have := length_putK kvs k d; omega
    have I2 : Inv X pins σ (upd H a (.dT (putK kvs k d))) { s with heap := h', toks := s.toks + (tupleKind (mixKind X.prog X.w)).draws k } :=
      d_write I (by rw [ha]; exact True.intro) hs ⟨o, hq⟩ ⟨hl, hd, _, (rel.put k hb r2).keeps (fun c ys ec => (by rw [upd_ne (ne_of ec ha (fun z => nomatch z))]; exact ec)), o, es, ep, hq, h2, h3, h4, h5⟩
    show EP X pins σ Q u2 _
    exact ⟨d, _, I2, r2, q2 e⟩
end

@[simp] def keysT : List W → Option (List Key)
  | [] => some []
  | w :: r => match toKey w, keysT r with
    | some k, some ks => some (k :: ks)
    | _, _ => none
theorem keysT_ok {K : PySem.W.Frag} {β : Bt} {H : Hp} : ∀ {ws : List W} {vs : List V} {ks : List Key}, RVs K β H ws vs → keysT ws = some ks → vs = ks.map kV
  | _, _, ks, .nil, h => by simp only [keysT] at h; cases h; rfl
  | _, _, ks, .cons (w := w) (ws := ws) r1 r, h => by
    unfold keysT at h
    split at h
    · rename_i k ks' e1 e2
      cases h
      rw [toKey_ok r1 e1, keysT_ok r e2]
      rfl
    · cases h
/-- {} , a dict with tuple keys -/
@[simp] def mDNewT : ME := fun _ st => .ok (.ref st.length) (st ++ [.dT []])
/-- d.setdefault((..), []) -/
@[simp] def mSetDef (o : ME) (a : MA) : ME := fun s st => (o s st).bind fun x st1 => match x with
  | .ref r => match st1[r]? with
    | some (.dT _) => (a s st1).bind fun ks st2 => match st2[r]?, keysT ks with
      | some (.dT kvs), some k => if kvs.length < sizeLine ∧ ks.length ≤ sizeLine then match valW kvs k with
          | some w => .ok w st2
          | none => .ok (.ref st2.length) ((st2 ++ [Ob.lst []]).set r (.dT (putKW kvs k (.ref st2.length))))
        else .stuck
      | _, _ => .stuck
    | _ => .stuck
  | _ => .stuck
section
variable {X : Cx} {Cl : Nat → Addr} {E : XK} {pos p : Pos}
theorem je_dnewT : JE X Cl E (.Dict [] [] pos) mDNewT :=
  ⟨_, pe_dnewT, fun β H σ s st Q hr hs h p hp => h _ _ _ (Ext.push hp) (hr.push hp ⟨[], upd_same, .nil⟩) (.ref (by rw [← hr.len]; exact push_last))⟩
theorem je_setdef {o : Expr} {es : List Expr} {k : Nat} {tpos lpos apos cpos : Pos} {mo : ME} {mr : MA} (hu : X.A.units + 1 < cLine)
    (ho : JE X Cl E o mo) (ha : JA X Cl E es mr)
    (hbase : attributeBase o "setdefault" X.env (eval o X.env) = eval o X.env := by rfl)
    (hfew : ((backTo cpos (starEach [.Tuple es k tpos, .List [] lpos] X.env)).all (fun x => !x.1) && (backToKw cpos (keywordEach [] X.env)).all (fun x => x.1.isSome) && decide ([Expr.Tuple es k tpos, .List [] lpos].length + ([] : List Keyword).length + (if ([] : List Keyword).isEmpty then 0 else 1) < 30)) = true := by rfl)
    (hline : (apos.endLine == cpos.line) = true := by rfl)
    (hs : starEach [.Tuple es k tpos, .List [] lpos] X.env = (false, eval (.Tuple es k tpos) X.env) :: starEach [.List [] lpos] X.env := by rfl)
    (hs2 : starEach [.List [] lpos] X.env = (false, eval (.List [] lpos) X.env) :: starEach [] X.env := by rfl)
    (hplain : (backTo cpos (starEach [.List [] lpos] X.env)).any (·.1) = false := by rfl) :
    JE X Cl E (.Call (.Attribute o "setdefault" apos) [.Tuple es k tpos, .List [] lpos] [] cpos) (mSetDef mo mr) := by
  obtain ⟨_, p1, q1⟩ := ho.ex
  obtain ⟨_, p2, q2⟩ := ha.ex
  refine ⟨_, pe_bm F.plainAttrs_dict F.slot_dict_setdefault F.type_dict_setdefault (mt_setdefT hu) p1 (pa_cons (pe_tup p2) (pa_cons (pe_lst pa_nil) pa_nil hs2) hs) hbase hfew hline hs hplain, fun β H σ s st Q hr hs h => q1 β H σ s st _ hr hs (h.bind fun x st1 β1 H1 v _ e1 hr1 rx1 h1 => ?_)⟩
  cases x with
  | ref r =>
    simp only at h1
    split at h1
    · rename_i kv0 es1
      have ty : tyV X.K "dict" v H1 := by
        obtain ⟨a, rfl, _, gs, hg, _⟩ := rx1.atRef hr1 es1 (by intro z; cases z)
        exact .inr (.inr (.inl ⟨rfl, .inr ⟨gs, hg⟩⟩))
      refine ⟨ty, q2 β1 H1 σ s st1 _ hr1 (hs.ext e1) (h1.bind fun ks st2 β2 H2 vs _ e2 hr2 rk h2 => ?_)⟩
      have rx2 := rx1.ext e2
      split at h2
      · rename_i kvs k es2 ek
        split at h2
        · rename_i hz
          have evs := keysT_ok rk ek
          refine ⟨by rw [← rk.length]; exact hz.2, fun p hp => ?_⟩
          refine ⟨Nat.zero_le _, fun l hl => ?_⟩
          have e3 : Ext X.K β2 H2 β2 (upd H2 p (.tup vs)) := Ext.new hp
          have hr3 : HR X.K Cl β2 (upd H2 p (.tup vs)) st2 := hr2.new hp
          have hpl : p ≠ l := fun z => by subst z; rw [upd_same] at hl; cases hl
          have hkey : ∀ (o : HO), (upd (upd H2 p (.tup vs)) l o) p = some (.tup (k.map kV)) := fun o => by rw [upd_ne hpl, upd_same, evs]
          cases ew : valW kvs k with
          | some w =>
            rw [ew] at h2
            have e4 : Ext X.K β2 (upd H2 p (.tup vs)) β2 (upd (upd H2 p (.tup vs)) l (.lst [])) := Ext.new hl
            have hr4 : HR X.K Cl β2 (upd (upd H2 p (.tup vs)) l (.lst [])) st2 := hr3.new hl
            obtain ⟨a, rfl, hb, gs, hg, hrs⟩ := ((rx2.ext e3).ext e4).atRef hr4 es2 (by intro z; cases z)
            obtain ⟨v', hv', rv'⟩ := hrs.val ew
            refine ⟨a, gs, k, p, _, rfl, rfl, hg, hkey _, by rw [← hrs.length]; exact hz.1, fun v0 e0 => ?_, fun e0 => by rw [hv'] at e0; cases e0⟩
            rw [hv'] at e0; cases e0
            exact h2 β2 _ _ (e3.trans e4) hr4 rv'
          | none =>
            rw [ew] at h2
            have e4 : Ext X.K β2 (upd H2 p (.tup vs)) (β2.push l) (upd (upd H2 p (.tup vs)) l (.lst [])) := Ext.push hl
            have hr4 : HR X.K Cl (β2.push l) (upd (upd H2 p (.tup vs)) l (.lst [])) (st2 ++ [.lst []]) := hr3.push hl ⟨[], upd_same, .nil⟩
            have hlt : r < st2.length := (List.getElem?_eq_some_iff.mp es2).1
            have es4 : (st2 ++ [Ob.lst []])[r]? = some (.dT kvs) := by rw [List.getElem?_append_left hlt]; exact es2
            obtain ⟨a, rfl, hb, gs, hg, hrs⟩ := ((rx2.ext e3).ext e4).atRef hr4 es4 (by intro z; cases z)
            have em : Ext X.K (β2.push l) _ (β2.push l) (upd (upd (upd H2 p (.tup vs)) l (.lst [])) a (.dT (putK gs k (.ref l)))) := Ext.mut hr4 hb hg trivial
            have rl : RV X.K (β2.push l) (upd (upd H2 p (.tup vs)) l (.lst [])) (.ref st2.length) (.ref l) := .ref (by rw [← hr3.len]; exact push_last)
            refine ⟨a, gs, k, p, _, rfl, rfl, hg, hkey _, by rw [← hrs.length]; exact hz.1, ⟨fun v0 e0 => (by rw [hrs.valN ew] at e0; cases e0), fun _ => ?_⟩⟩
            exact h2 (β2.push l) _ _ ((e3.trans e4).trans em) (hr4.mut hb hg trivial ⟨_, upd_same, (hrs.put k rl).ext em⟩) (rl.ext em)
        · exact h2.elim
      · exact h2.elim
    · exact h1.elim
  | _ => exact h1.elim
end
end Mi
/-! The mirror layer, part K: the values of a dict with tuple keys walked (the dict locked). -/
namespace Mi
open PySem PySem.W PySem.Calls PyProof.Rows PyProof.V PySem.Spec L2
def Itdt (d : Addr) (o : Obj) (kvs : List (List Key × V)) : It :=
  ⟨fun i H => H d = some (.frz o (.dT kvs)) ∧ i < kvs.length, fun i H x H' => H' = H ∧ ∃ k, kvs[i]? = some (k, x), fun i H => H d = some (.frz o (.dT kvs)) ∧ kvs.length ≤ i⟩
section
variable {X : Cx} {pins : List (Addr × Obj)} {σ : L2.St} {H : Hp} {s : Shared} {d : Addr} {o : Obj}
theorem frzTv {kvs : List (List Key × V)} (I : Inv X pins σ H s) (h : H d = some (.frz o (.dT kvs))) :
    (d == sysModules) = false ∧ s.heap.get? d = some o ∧ o.ExactDict ∧ ∃ (es : Array DictEntry) (ep : Nat), o.data = .dict es ep ∧ es.size = kvs.length ∧
      ∀ (i : Nat) (k : List Key) (v : V), kvs[i]? = some (k, v) → ∃ (en : DictEntry), es[i]? = some en ∧ RelV v en.val := by
  obtain ⟨hd, z, hs, xs, pr, o', es, ep, ho, hx, hdt, he, _⟩ := I.hok d _ h
  rw [hd] at ho
  cases ho
  refine ⟨hs, hd, hx, es, ep, hdt, ?_, fun i k v e => ?_⟩
  · have l1 : es.size = xs.length := size_of_entries he
    have l2 : kvs.length = xs.length := Paired.length pr
    omega
  · obtain ⟨b, hb, e1, e2, e3⟩ := paired_get pr e
    have q := entry_at he i
    rw [hb] at q
    exact ⟨_, q, e3⟩
end
section
variable {P : Program} {w : World} {K : PySem.W.Frag} {tg : Expr} {d : Addr} {o : Obj} {es : Array DictEntry} {ep : Nat}
theorem turn_valsT {kvs : List (List Key × V)} (it : Addr) (hod : o.data = .dict es ep) : Turn P w K tg (Itdt d o kvs) [it] it (fun i h => h.IsValIter it d i kvs.length ep) where
  mem := by simp
  obj := fun i h st b hb => by
    have e : b = it := by simpa using hb
    subst e
    obtain ⟨oi, e, c, dd⟩ := st
    exact ⟨oi, e, fun v z => by rw [dd] at z; cases z⟩
  keep := fun i h h' st k => st.at fun oi e => k it (by simp) oi e
  item := by
    intro X hP hw hK hc i pins s σ H E I hf st hg
    subst hP hw hK
    obtain ⟨hd, hi⟩ := hg
    obtain ⟨f0, f1, f2, f3, f4, f5⟩ := hf it (by simp)
    obtain ⟨hs, hgd, hx, es', ep', hdt, hsz, ent⟩ := frzTv I hd
    obtain ⟨rfl, rfl⟩ := dict_ep hod hdt
    obtain ⟨⟨k, v⟩, hkv⟩ : ∃ p, kvs[i]? = some p := ⟨kvs[i], List.getElem?_eq_getElem hi⟩
    obtain ⟨en, hen, ru⟩ := ent i k v hkv
    obtain ⟨hil, hie⟩ := Array.getElem?_eq_some_iff.mp hen
    rw [← hsz] at st
    refine wpAny_pyNext_values_item_raw st ⟨o, hgd, hx, hdt⟩ hil fun h' st' sb => ?_
    have I1 : Inv X pins σ H { s with heap := h' } := I.turned (t' := s.toks) (fun b ob hb e => (sb.2 b hb).trans e) f0 f1 f3 f4 f5
    obtain ⟨oi, e, c, dd⟩ := id st'
    rw [hie]
    refine ⟨en.val, rfl, go_of (s := { s with heap := h' }) e c dd (by decide) ⟨v, H, I1, ru, ⟨rfl, k, hkv⟩, ?_, fun b hb => (hf b hb).1⟩⟩
    show h'.IsValIter it d (i + 1) kvs.length _
    rw [← hsz]
    exact st'
  done := by
    intro X hP hw hK hc i pins s σ H E I hf st hg
    subst hP hw hK
    obtain ⟨hd, hi⟩ := hg
    obtain ⟨f0, f1, f2, f3, f4, f5⟩ := hf it (by simp)
    obtain ⟨hs, hgd, hx, es', ep', hdt, hsz, ent⟩ := frzTv I hd
    obtain ⟨rfl, rfl⟩ := dict_ep hod hdt
    rw [← hsz] at st
    exact wpAny_pyNext_values_end_raw (I.ok.hd hc) st ⟨o, hgd, hx, hdt⟩ (by omega) fun h' eb => ⟨rfl, I.turned (t' := s.toks) (fun b ob hb e => eb b ob hb e) f0 f1 f3 f4 f5⟩
  self := fun A i s Q E st h => wpAny_pyIter_valiter st h
end
def iValsT (td : TE) : TI := fun σ H R => td σ H fun x H1 => ∃ d o kvs, x = .ref d ∧ H1 d = some (.frz o (.dT kvs)) ∧ R (Itdt d o kvs) H1
theorem pi_valuesT {X : Cx} {tg e : Expr} {td : TE} {apos cpos : Pos} (he : PE X e td) (hbase : attributeBase e "values" X.env (eval e X.env) = eval e X.env := by rfl) (hline : (apos.endLine == cpos.line) = true := by rfl) : PI X tg (.Call (.Attribute e "values" apos) [] [] cpos) (iValsT td) := by
  refine ⟨fun pins s σ H R I h => ?_⟩
  refine wpAny_Call_method (T := "dict") (id := "dict.values") hbase rfl hline F.plainAttrs_dict F.slot_dict_values F.type_dict_values (thn (he.run pins s σ H _ I h) fun u s1 ⟨x, H1, I1, rx, d, o, kvs, ex, hd, q⟩ => ?_)
  subst ex
  obtain rfl : u = Value.ref d := rx
  obtain ⟨hs, hgd, hx, es, ep, hdt, hsz, ent⟩ := frzTv I1 hd
  have hraw : s1.heap.DictRaw d es ep := ⟨o, hgd, hx, hdt⟩
  have hty : s1.TypeIs (.ref d) "dict" := ⟨o, hgd, hx.1⟩
  refine ⟨hty, ?_, ?_⟩
  · intro a ea; cases ea; exact ⟨o, hgd, hx.2.1⟩
  have I2 : Inv X pins σ H1 { s1 with heap := s1.heap.push { cls := .type "dict_values", data := .fields #[.ref d] } } := I1.kept (t' := s1.toks) fun b ob q => Heap.get?_push_of_some _ q
  have fin : wpAny (model X.prog X.w) X.A (pyIter (.ref s1.heap.objs.size)) (PIE X pins σ tg R) X.xe { s1 with heap := s1.heap.push { cls := .type "dict_values", data := .fields #[.ref d] } } := by
    refine wpAny_pyIter_values_raw (d := d) (es := es) (ep := ep) ⟨_, Heap.get?_push_size _ rfl, rfl, rfl⟩ ⟨o, Heap.get?_push_of_some _ hgd, hx, hdt⟩ (pi_one (tk := s1.toks) I2 _ (turn_valsT _ hdt) ⟨_, Heap.get?_push_size _ rfl, rfl, ?_⟩ q)
    rw [hsz] <;> rfl
  show wpAny _ _ (callWith cpos (.builtin "dict.values") [.ref d] [] []) _ X.xe s1
  exact method_meetsIn F.slot_dict_values F.entry_dict_values rfl (PySem.evalArgs_none ⟨rfl, hty, F.args_dict_values_1 _, _, meets_dict_values_raw d hs, ⟨⟨es, ep, hraw⟩, fin⟩⟩)
end Mi
/-! The mirror layer, part L: [len(x) for x in self.f.values()], f a dict with tuple keys whose values are lists. -/
namespace Mi
open PySem L2
@[simp] def lensW (st : Sto) : List (List Key × W) → Option (List Int)
  | [] => some []
  | (_, .ref l) :: r => match st[l]?, lensW st r with
    | some (.lst ws), some ls => some ((ws.length : Nat) :: ls)
    | _, _ => none
  | _ => none
def mLenVals (c : Nat) (f : Str) (i v : Nat) : ME := fun s st => match s[i]? with
  | some (some (.ref q)) => match st[q]? with
    | some (.ins d fs) => match fs.lookup f with
      | some (.ref r) => match st[r]? with
        | some (.dT kvs) => match lensW st kvs with
          | some ls => if d = c ∧ v < s.length ∧ kvs.length < sizeLine then .ok (.lst (ls.map W.int)) st else .stuck
          | none => .stuck
        | _ => .stuck
      | _ => .stuck
    | _ => .stuck
  | _ => .stuck
theorem lensW_ok {K : PySem.W.Frag} {Cl : Nat → Addr} {β : Bt} {H : Hp} {st : Sto} (hr : HR K Cl β H st) : ∀ {kvs : List (List Key × W)} {gs : List (List Key × V)} {ls : List Int}, RF K β H kvs gs → lensW st kvs = some ls →
    ls.length = gs.length ∧ ∀ (j : Nat) (k : List Key) (v : V), gs[j]? = some (k, v) → ∃ (l : Addr) (us : List V), v = .ref l ∧ H l = some (.lst us) ∧ ls[j]? = some ((us.length : Nat) : Int)
  | _, _, ls, .nil, h => by simp only [lensW] at h; cases h; exact ⟨rfl, fun j k v e => by simp at e⟩
  | _, _, ls, .cons (k := k0) (w := w) (v := v0) (fs := fs) (gs := gs) h0 t, h => by
    cases w with
    | ref l =>
      simp only [lensW] at h
      split at h
      · rename_i ws ls' e1 e2
        cases h
        obtain ⟨h1, h2⟩ := lensW_ok hr t e2
        obtain ⟨a, rfl, _, us, hu, hrs⟩ := h0.atRef hr e1 (by intro z; cases z)
        refine ⟨by simp [h1], fun j k v e => ?_⟩
        cases j with
        | zero =>
          simp at e
          obtain ⟨rfl, rfl⟩ := e
          exact ⟨a, us, rfl, hu, by simp [hrs.length]⟩
        | succ j =>
          simp at e
          obtain ⟨l', us', q1, q2, q3⟩ := h2 j k v e
          exact ⟨l', us', q1, q2, by simpa using q3⟩
      · cases h
    | _ => simp [lensW] at h
section
variable {X : Cx} {Cl : Nat → Addr} {E : XK}
theorem rvs_ints {K : PySem.W.Frag} {β : Bt} {H : Hp} : ∀ ls : List Int, RVs K β H (ls.map W.int) (ls.map V.int)
  | [] => .nil
  | _ :: ls => .cons (.int _) (rvs_ints ls)
def rLen (K : PySem.W.Frag) : List V → Hp → VK → Prop := fun xs H Q => ∃ x n, xs = [x] ∧ LenV K x H n ∧ Q (.int n) H
theorem se_lenVals {K : PySem.W.Frag} {c : Nat} {f : Str} {i v : Nat} (hc : Cls K (Cl c)) (hn : NoAttr K (Cl c) f) :
    SE K Cl E (tLockE (tLc (iValsT (tFld K (tVar i) f)) (gName v) tYes (tCB (rLen K) (tCons (tVar v) tNil)) [v])) (mLenVals c f i v) := fun β H σ s st Q hr hs h => by
  unfold mLenVals at h
  split at h
  · rename_i q es
    split at h
    · rename_i d fs eq
      split at h
      · rename_i r el
        split at h
        · rename_i kvs er
          split at h
          · rename_i ls els
            split at h
            · rename_i hz
              obtain ⟨rfl, hv, hkl⟩ := hz
              obtain ⟨x, hx, rx⟩ := hs.2 i _ es
              obtain ⟨a, rfl, _, dx, gs, ha, hrs⟩ := rx.atRef hr eq (by intro z; cases z)
              obtain ⟨y, hy, ry⟩ := hrs.look el
              obtain ⟨dd, rfl, _, gv, hd, hrv⟩ := ry.atRef hr er (by intro z; cases z)
              obtain ⟨l1, l2⟩ := lensW_ok hr hrv els
              have hne : a ≠ dd := fun z => by subst z; rw [hd] at ha; cases ha
              refine ⟨dd, .dT gv, hd, trivial, fun od => ?_⟩
              refine ⟨_, hx, a, _, dx, gs, _, rfl, (by rw [upd_ne hne]; exact ha), hc, hn, hy, dd, od, gv, rfl, upd_same, fun D hD => ?_⟩
              have hDd : D ≠ dd := fun z => by subst z; rw [upd_same] at hD; cases hD
              have hDH : H D = none := by rw [upd_ne hDd] at hD; exact hD
              refine ⟨fun j m H' => H' = upd (upd H dd (.frz od (.dT gv))) D (.lst ((ls.take j).map V.int)) ∧ m = gv.length - j, ⟨gv.length, by simp⟩, ?_⟩
              rintro j m H' ⟨rfl, rfl⟩
              have hfd : (upd (upd H dd (.frz od (.dT gv))) D (.lst ((ls.take j).map V.int))) dd = some (.frz od (.dT gv)) := by rw [upd_ne (Ne.symm hDd), upd_same]
              by_cases hj : gv.length ≤ j
              · refine .inl ⟨⟨hfd, hj⟩, hfd, ?_⟩
                rw [List.take_of_length_le (by omega)]
                have e : upd (upd (upd H dd (.frz od (.dT gv))) D (.lst (ls.map V.int))) dd (.dT gv) = upd H D (.lst (ls.map V.int)) := by
                  funext b
                  by_cases b1 : b = dd
                  · subst b1; rw [upd_same, upd_ne (Ne.symm hDd), hd]
                  · rw [upd_ne b1]
                    by_cases b2 : b = D
                    · subst b2; rw [upd_same, upd_same]
                    · rw [upd_ne b2, upd_ne b1, upd_ne b2]
                rw [e]
                exact Po.lst h hr hDH (rvs_ints ls)
              · refine .inr ⟨⟨hfd, by omega⟩, fun H'' => H'' = upd (upd H dd (.frz od (.dT gv))) D (.lst ((ls.take (j + 1)).map V.int)), fun H'' e => ⟨gv.length - (j + 1), by omega, e, rfl⟩, ?_⟩
                rintro x H'' ⟨rfl, k, hk⟩
                obtain ⟨l, us, rfl, hl, hls⟩ := l2 j k x hk
                have hld : l ≠ dd := fun z => by subst z; rw [hd] at hl; cases hl
                have hlD : l ≠ D := fun z => by subst z; rw [hDH] at hl; cases hl
                have hvl : v < σ.length := by rw [← hs.1]; exact hv
                refine ⟨?_, ?_⟩
                · show (((σ.set v none).set v _).set v none) = σ.set v none
                  simp
                · unfold tYes
                  simp only [if_true]
                  have HLL : SqL K (upd (upd H dd (.frz od (.dT gv))) D (.lst ((ls.take j).map V.int))) l us := .inl (.inl (by rw [upd_ne hlD, upd_ne hld]; exact hl))
                  refine ⟨_, (by show ((σ.set v none).set v _)[v]? = _; rw [List.getElem?_set_self (by simpa using hvl)]), _, us.length, rfl, (show LenV K (.ref l) _ us.length from Or.inl ⟨us, HLL, rfl⟩), (ls.take j).map V.int, upd_same, ?_, ?_⟩
                  · rw [List.length_map, List.length_take]
                    have := hrv.length
                    omega
                  · rw [List.take_succ, hls]
                    funext b
                    by_cases b2 : b = D
                    · subst b2; rw [upd_same, upd_same]; simp
                    · rw [upd_ne b2, upd_ne b2, upd_ne b2]
            · exact h.elim
          · exact h.elim
        · exact h.elim
      · exact h.elim
    · exact h.elim
  · exact h.elim
end
end Mi
namespace Mi
open PySem L2
section
variable {X : Cx} {Cl : Nat → Addr} {E : XK}
theorem pe_lenName {y : Str} {p p2 pos : Pos} (v : Nat) (hm : X.mg "len" = none) (hv : bootBuiltins "len" = some (.builtin "len")) (hN : X.N[v]? = some y := by rfl) (hvis : Vis X.env.scope y := by first | exact Or.inl rfl | exact Or.inr (Or.inl rfl) | exact Or.inr (Or.inr rfl)) (hd : (y == ("__debug__" : Str)) = false := by decide)
    (hcd : (y == ("__classdict__" : Str)) = false := by decide) (hg : Gl X "len" := by rfl)
    (he : starEach [.Name y p2] X.env = (false, eval (.Name y p2) X.env) :: starEach [] X.env := by rfl) (hpl : (backTo pos (starEach [] X.env)).any (·.1) = false := by rfl) : PE X (.Call (.Name "len" p) [.Name y p2] [] pos) (tCB (rLen X.K) (tCons (tVar v) tNil)) :=
  pe_callB call_len hg hm hv (pa_cons (pe_var hN hvis hd hcd) pa_nil he) (by decide) (by decide) he hpl
theorem je_lenVals {c : Nat} {f self y : Str} {i v : Nat} {elt : Expr} {scope : Scope} {p4 p5 p6 p7 p8 pos : Pos} (hc : X.calm = true) (hN : X.N.Nodup) (hcl : Cls X.K (Cl c)) (hn : NoAttr X.K (Cl c) f) (ok : BlkOk X.N X.env.scope scope [(y, v)])
    (hg : ∀ (s : Shared) (H : Hp) (C : Addr) (cl : List (Str × Addr)) (fp : List Addr), JN (X.blk s H scope (compEnvC scope cl C X.env) fp) (.Name y p4) (.nm v))
    (he : ∀ (s : Shared) (H : Hp) (C : Addr) (cl : List (Str × Addr)) (fp : List Addr), PE (X.blk s H scope (compEnvC scope cl C X.env) fp) elt (tCB (rLen X.K) (tCons (tVar v) tNil)))
    (hself : X.N[i]? = some self := by rfl) (hvis : Vis X.env.scope self := by first | exact Or.inl rfl | exact Or.inr (Or.inl rfl) | exact Or.inr (Or.inr rfl)) (hd : (self == ("__debug__" : Str)) = false := by decide)
    (hcd : (self == ("__classdict__" : Str)) = false := by decide) (hb : attributeBase (.Name self p5) f X.env (eval (.Name self p5) X.env) = eval (.Name self p5) X.env := by rfl)
    (hbase : attributeBase (.Attribute (.Name self p5) f p6) "values" X.env (eval (.Attribute (.Name self p5) f p6) X.env) = eval (.Attribute (.Name self p5) f p6) X.env := by rfl) (hline : (p7.endLine == p8.line) = true := by rfl)
    (hs : ∀ x, foldedSetIterable (.Call (.Attribute (.Attribute (.Name self p5) f p6) "values" p7) [] [] p8) X.env x = pure x := by intro _; rfl) :
    JE X Cl E (.ListComp elt [⟨.Name y p4, .Call (.Attribute (.Attribute (.Name self p5) f p6) "values" p7) [] [] p8, [], 0⟩] scope pos) (mLenVals c f i v) :=
  ⟨_, pe_lock (pe_lc hc hN (pi_valuesT (pe_fld (pe_var hself hvis hd hcd) hb) hbase hline) ok (fun s H C cl fp => (hg s H C cl fp).pg) (fun s H C cl fp => pts_nil) he hs), se_lenVals hcl hn⟩
end
end Mi
/-! The mirror layer, part Q: what several laws' drawing functions share. -/
namespace Mi
open PySem L2
/-- the bag: a number left over, a seed, a place, the last cell, the cells -/
def BagOb (o : Ob) : Prop := ∃ (a b c d : Int) (ns : List Int), o = .lst [.int a, .int b, .int c, .int d, .lst (ns.map W.int)] ∧ 0 ≤ c
def Sm (i : Nat) (st st' : Sto) : Prop := st'.length = st.length ∧ (∀ k : Nat, k ≠ i → st'[k]? = st[k]?) ∧ ∃ o, st'[i]? = some o ∧ BagOb o
theorem Sm.trans {i : Nat} {a b c : Sto} (h : Sm i a b) (k : Sm i b c) : Sm i a c := ⟨k.1.trans h.1, fun j hj => (k.2.1 j hj).trans (h.2.1 j hj), k.2.2⟩
theorem Sm.refl {i : Nat} {st : Sto} {o : Ob} (h : st[i]? = some o) (b : BagOb o) : Sm i st st := ⟨rfl, fun _ _ => rfl, o, h, b⟩
theorem Sm.here {i : Nat} {a b : Sto} (h : Sm i a b) : Sm i b b := ⟨rfl, fun _ _ => rfl, h.2.2⟩
theorem Sm.set {i : Nat} {st : Sto} {o : Ob} (hi : i < st.length) (b : BagOb o) : Sm i st (st.set i o) := ⟨by simp, fun k hk => by rw [List.getElem?_set_ne (Ne.symm hk)], o, by simp [hi], b⟩
theorem Sm.lt {i : Nat} {a b : Sto} (h : Sm i a b) : i < b.length := by obtain ⟨_, _, o, h, _⟩ := h; exact (List.getElem?_eq_some_iff.mp h).1
theorem pick (P : Int → Prop) (vs : List Int) (r : Int) (r0 : 0 ≤ r) (r1 : r < vs.length) (h : ∀ v ∈ vs, P v) : ∃ v, atI (vs.map W.int) r = some (.int v) ∧ P v := by
  have hi : r.toNat < vs.length := by omega
  exact ⟨vs[r.toNat], atI_nn r0 (by simp [hi]), h _ (List.getElem_mem hi)⟩
theorem lg {m : Int} (h0 : 0 < m) (h1 : m < 18446744073709551616) : m.natAbs.log2 < 9000 := by
  have h := (Nat.log2_lt (n := m.natAbs) (k := 64) (by omega)).mpr (by omega)
  omega
end Mi
/-! The mirror layer, part T: rows of a tree over a list of numbers. -/
namespace Mi
open PySem L2
/-- a row's item -/
def gt (row : List Int) (p : Nat) : Int := row.getD p 0
theorem gt_get {row : List Int} {p : Nat} (h : p < row.length) : row[p]? = some (gt row p) := by simp [gt, List.getD, h]
/-- the row above a row -/
def prs (f : Int → Int → Int) (row : List Int) : List Int := (List.range (row.length / 2)).map fun k => f (gt row (2 * k)) (gt row (2 * k + 1))
theorem prs_len (f : Int → Int → Int) (row : List Int) : (prs f row).length = row.length / 2 := by simp [prs]
theorem prs_getD (f : Int → Int → Int) (row : List Int) (k : Nat) (h : k < row.length / 2) : gt (prs f row) k = f (gt row (2 * k)) (gt row (2 * k + 1)) := by
  simp [gt, prs, List.getD, h]
def lev (f : Int → Int → Int) (row : List Int) : Nat → List Int
  | 0 => row
  | k + 1 => prs f (lev f row k)
theorem lev_len (f : Int → Int → Int) (row : List Int) : ∀ k, (lev f row k).length = row.length / 2 ^ k
  | 0 => by simp [lev]
  | k + 1 => by rw [lev, prs_len, lev_len f row k, Nat.div_div_eq_div_mul, Nat.pow_succ]
theorem getD_set_ne {l : List Int} {p q : Nat} {d : Int} (h : p ≠ q) : gt (l.set p d) q = gt l q := by
  simp [gt, List.getD, List.getElem?_set_ne h]
theorem getD_set_self {l : List Int} {p : Nat} {d : Int} (h : p < l.length) : gt (l.set p d) p = d := by
  simp [gt, List.getD, h]
/-- a row in which one place has changed, the rows above it -/
theorem prs_set (f : Int → Int → Int) (row : List Int) (p : Nat) (d : Int) : prs f (row.set p d) = (prs f row).set (p / 2) (f (gt (row.set p d) (2 * (p / 2))) (gt (row.set p d) (2 * (p / 2) + 1))) := by
  refine List.ext_getElem (by simp [prs_len]) fun k h1 h2 => ?_
  have hk : k < row.length / 2 := by simpa [prs_len] using h1
  rw [List.getElem_set]
  by_cases e : p / 2 = k
  · subst e
    simp [prs]
  · rw [if_neg e]
    simp only [prs, List.getElem_map, List.getElem_range]
    rw [getD_set_ne (by omega), getD_set_ne (by omega)]
theorem lev_set (f : Int → Int → Int) (row : List Int) (p : Nat) (d : Int) (hp : p < row.length) : ∀ k, 2 ^ k ∣ row.length → lev f (row.set p d) k = (lev f row k).set (p / 2 ^ k) (gt (lev f (row.set p d) k) (p / 2 ^ k))
  | 0, _ => by
    show row.set p d = row.set (p / 2 ^ 0) (gt (row.set p d) (p / 2 ^ 0))
    rw [Nat.pow_zero, Nat.div_one, getD_set_self hp]
  | k + 1, hd => by
    have hd' : 2 ^ k ∣ row.length := Nat.dvd_trans (Nat.pow_dvd_pow 2 (Nat.le_succ k)) hd
    have ih := lev_set f row p d hp k hd'
    have e2 : p / 2 ^ (k + 1) = p / 2 ^ k / 2 := by rw [Nat.div_div_eq_div_mul, Nat.pow_succ]
    have hl : p / 2 ^ (k + 1) < (prs f (lev f (row.set p d) k)).length := by
      rw [prs_len, lev_len, List.length_set, Nat.div_div_eq_div_mul, ← Nat.pow_succ]
      exact Nat.div_lt_div_of_lt_of_dvd hd hp
    show prs f (lev f (row.set p d) k) = (prs f (lev f row k)).set (p / 2 ^ (k + 1)) (gt (prs f (lev f (row.set p d) k)) (p / 2 ^ (k + 1)))
    have hs := prs_set f (lev f row k) (p / 2 ^ k) (gt (lev f (row.set p d) k) (p / 2 ^ k))
    rw [← ih] at hs
    rw [e2] at hl ⊢
    rw [prs_getD _ _ _ (by rw [prs_len] at hl; exact hl)]
    exact hs
theorem prs_in (f : Int → Int → Int) (P : Int → Prop) (row : List Int) (h : ∀ x y, P x → P y → P (f x y)) (hr : ∀ x ∈ row, P x) : ∀ x ∈ prs f row, P x := by
  intro x hx
  simp only [prs, List.mem_map, List.mem_range] at hx
  obtain ⟨k, hk, rfl⟩ := hx
  have a1 : 2 * k < row.length := by omega
  have a2 : 2 * k + 1 < row.length := by omega
  have e1 : gt row (2 * k) = row[2 * k] := by simp [gt, List.getD, a1]
  have e2 : gt row (2 * k + 1) = row[2 * k + 1] := by simp [gt, List.getD, a2]
  rw [e1, e2]
  exact h _ _ (hr _ (List.getElem_mem a1)) (hr _ (List.getElem_mem a2))
theorem lev_in (f : Int → Int → Int) (P : Int → Prop) (row : List Int) (h : ∀ x y, P x → P y → P (f x y)) (hr : ∀ x ∈ row, P x) : ∀ k, ∀ x ∈ lev f row k, P x
  | 0 => hr
  | k + 1 => prs_in f P _ h (lev_in f P row h hr k)
/-! ### rows of numbers compared -/
theorem lay_ints : ∀ ns : List Int, PyData.canLayAll0 (ns.map PyData.int) = true
  | [] => by simp
  | n :: ns => by simp [lay_ints ns]
theorem dep_ints : ∀ ns : List Int, PyData.depthAll (ns.map PyData.int) = 0
  | [] => by simp
  | n :: ns => by simp [dep_ints ns]
theorem eqvA_ints : ∀ ns ms : List Int, PyData.eqvAll (ns.map PyData.int) (ms.map PyData.int) = decide (ns = ms)
  | [], [] => by simp
  | [], m :: ms => by simp
  | n :: ns, [] => by simp
  | n :: ns, m :: ms => by
    rw [List.map_cons, List.map_cons, eqvA_cc, eqv_ii, eqvA_ints ns ms]
    by_cases h1 : n = m <;> by_cases h2 : ns = ms <;> simp [h1, h2]
/-- a comprehension over an object of the store that changes no store -/
theorem lc_cell_at {c n : Nat} {ws : List W} {g : MG} {t : MT} {e : ME} {s : Slo} {st : Sto} (p : W → Bool) (q : W → W) (h0 : st[c]? = some (.lst ws)) (hn : ws.length = n)
    (h : ∀ w ∈ ws, ∃ s2, g w s st = some (s2, st) ∧ t s2 st = .ok (p w) st ∧ (p w = true → e s2 st = .ok (q w) st)) :
    ∀ (k i : Nat) (acc : List W), i + k = ws.length → acc.length + k ≤ sizeLine →
      mLcLoop (.cell c n) g t e s k i acc st = .ok (acc ++ ((ws.drop i).filter p).map q) st
  | 0, i, acc, e, hl => by
    have e' : i = ws.length := by omega
    subst e'
    simp only [mLcLoop, Src.fine, h0, hn, decide_true, if_true]
    rw [← hn, List.drop_length, List.filter_nil, List.map_nil, List.append_nil]
  | k + 1, i, acc, e, hl => by
    have hi : i < ws.length := by omega
    obtain ⟨s2, hg, ht, he⟩ := h ws[i] (List.getElem_mem hi)
    have hd := List.drop_eq_getElem_cons hi
    simp only [mLcLoop, Src.fine, Src.at, h0, hn, decide_true, if_true, List.getElem?_eq_getElem hi, hg, ht]
    cases hp : p ws[i] with
    | true =>
      simp only [he hp]
      rw [if_pos (by omega), lc_cell_at p q h0 hn h k (i + 1) _ (by omega) (by simp; omega)]
      rw [hd, List.filter_cons, hp]
      simp only [if_true, List.map_cons, List.append_assoc, List.singleton_append]
    | false =>
      simp only []
      rw [lc_cell_at p q h0 hn h k (i + 1) _ (by omega) (by omega), hd, List.filter_cons, hp]
      simp only [Bool.false_eq_true, if_false]
theorem filter_yes {α : Type} (l : List α) : (l.filter fun _ => true) = l := List.filter_eq_self.mpr fun _ _ => rfl
@[simp high] theorem aT (S T : Sto) (k : Nat) : (S ++ T)[S.length + k]? = T[k]? := by rw [List.getElem?_append_right (by omega)]; congr 1; omega
@[simp high] theorem a0 (S T : Sto) : (S ++ T)[S.length]? = T[0]? := aT S T 0
@[simp high] theorem sT (S T : Sto) (k : Nat) (x : Ob) : (S ++ T).set (S.length + k) x = S ++ T.set k x := by rw [List.set_append_right _ _ (by omega)]; congr 2; omega
@[simp high] theorem s0 (S T : Sto) (x : Ob) : (S ++ T).set S.length x = S ++ T.set 0 x := sT S T 0 x
end Mi
/-! The mirror layer, part R: reading by `simp`: fields, places, sizes. -/
namespace Mi
open PySem L2
@[simp] theorem beq_lit (a b : String) : (Str.ofString a == Str.ofString b) = decide (a = b) := by
  by_cases h : a = b
  · subst h; simp
  · have h2 : Str.ofString a ≠ Str.ofString b := fun e => h ((ofString_iff a b).mp e)
    simp [h]
@[simp] theorem lk_nil (k : Str) : List.lookup k ([] : Fl) = none := rfl
@[simp] theorem lk_lit (a b : String) (w : W) (r : Fl) : List.lookup (Str.ofString a) ((Str.ofString b, w) :: r) = if a = b then some w else List.lookup (Str.ofString a) r := by
  rw [List.lookup_cons, beq_lit]
  by_cases h : a = b <;> simp [h]
theorem atI_nat {α : Type} (xs : List α) (k : Nat) : atI xs (k : Int) = xs[k]? := by
  by_cases h : k < xs.length
  · rw [List.getElem?_eq_getElem h]
    exact atI_nn (by omega) (by simp [h])
  · have h2 : ixN xs.length (k : Int) = none := by
      simp only [ixN, if_pos (show (0 : Int) ≤ (k : Int) by omega)]
      rw [if_neg (by omega)]
    rw [atI, h2, List.getElem?_eq_none (by omega)]; rfl
@[simp] theorem atI_ofNat {α : Type} (xs : List α) (k : Nat) : atI xs (no_index (OfNat.ofNat k : Int)) = xs[(OfNat.ofNat k : Nat)]? := atI_nat xs k
theorem atI_last {α : Type} (xs : List α) : atI xs (-1) = xs.getLast? := by
  cases xs with
  | nil => rfl
  | cons x xs =>
    have h : ixN (x :: xs).length (-1) = some xs.length := by
      simp only [ixN, List.length_cons]
      rw [if_neg (by omega), if_pos (by omega)]
      congr 1
      omega
    rw [atI, h, List.getLast?_eq_getElem?]
    simp
theorem ixN_nat (n k : Nat) : ixN n (k : Int) = if k < n then some k else none := by
  by_cases h : k < n
  · simp only [ixN, if_pos (show (0 : Int) ≤ (k : Int) by omega), if_pos (show (k : Int) < (n : Int) by omega), if_pos h, Int.toNat_natCast]
  · simp only [ixN, if_pos (show (0 : Int) ≤ (k : Int) by omega), if_neg (show ¬ (k : Int) < (n : Int) by omega), if_neg h]
@[simp] theorem ixN_ofNat (n k : Nat) : ixN n (no_index (OfNat.ofNat k : Int)) = if (OfNat.ofNat k : Nat) < n then some (OfNat.ofNat k : Nat) else none := ixN_nat n k
theorem ixN_last (n : Nat) : ixN n (-1) = if 0 < n then some (n - 1) else none := by
  by_cases h : 0 < n
  · simp only [ixN]
    rw [if_neg (by omega), if_pos (by omega), if_pos h]
    congr 1
    omega
  · simp only [ixN]
    rw [if_neg (by omega), if_neg (by omega), if_neg h]
@[simp] theorem log2_lt {n : Nat} (h : n < 18446744073709551616) : n.log2 < 9000 := by
  by_cases h0 : n = 0
  · subst h0; decide
  · have := (Nat.log2_lt (n := n) (k := 64) h0).mpr (by omega)
    omega
/-! ### the store -/
theorem rd_self {st : Sto} {i : Nat} {o : Ob} (h : (st[i]?).isSome = true) : (st.set i o)[i]? = some o := by
  rw [List.getElem?_set_self]
  by_cases hl : i < st.length
  · exact hl
  · rw [List.getElem?_eq_none (by omega)] at h; cases h
theorem rd_app {st T : Sto} {i : Nat} (h : (st[i]?).isSome = true) : (st ++ T)[i]? = st[i]? := by
  by_cases hl : i < st.length
  · rw [List.getElem?_append_left hl]
  · rw [List.getElem?_eq_none (by omega)] at h; cases h
theorem st_app {st T : Sto} {i : Nat} {o : Ob} (h : (st[i]?).isSome = true) : (st ++ T).set i o = st.set i o ++ T := by
  by_cases hl : i < st.length
  · rw [List.set_append_left _ _ hl]
  · rw [List.getElem?_eq_none (by omega)] at h; cases h
/-- nothing but the objects at A has changed; new ones may stand behind -/
def Only (A : List Nat) (st st' : Sto) : Prop := st.length ≤ st'.length ∧ ∀ i, i < st.length → i ∉ A → st'[i]? = st[i]?
theorem Only.refl (A : List Nat) (st : Sto) : Only A st st := ⟨Nat.le_refl _, fun _ _ _ => rfl⟩
theorem Only.trans {A B : List Nat} {s t u : Sto} (h : Only A s t) (k : Only B t u) (hb : ∀ i ∈ B, i < s.length → i ∈ A) : Only A s u :=
  ⟨Nat.le_trans h.1 k.1, fun i hi ha => (k.2 i (Nat.lt_of_lt_of_le hi h.1) fun z => ha (hb i z hi)).trans (h.2 i hi ha)⟩
theorem Only.mono {A B : List Nat} {s t : Sto} (h : Only A s t) (hb : ∀ i ∈ A, i < s.length → i ∈ B) : Only B s t := ⟨h.1, fun i hi n => h.2 i hi fun z => n (hb i z hi)⟩
theorem Only.rd {A : List Nat} {s t : Sto} (h : Only A s t) {i : Nat} {o : Ob} (e : s[i]? = some o) (n : i ∉ A) : t[i]? = some o := (h.2 i (List.getElem?_eq_some_iff.mp e).1 n).trans e
theorem Only.app (A : List Nat) (s T : Sto) : Only A s (s ++ T) := ⟨by simp, fun i hi _ => List.getElem?_append_left hi⟩
theorem Only.set {A : List Nat} {s : Sto} {i : Nat} {o : Ob} (h : i ∈ A) : Only A s (s.set i o) := ⟨by simp, fun j hj n => List.getElem?_set_ne fun e => n (by rw [← e]; exact h)⟩
theorem Sm.only {i : Nat} {a b : Sto} (h : Sm i a b) : Only [i] a b := ⟨by rw [h.1]; exact Nat.le_refl _, fun k _ n => h.2.1 k fun e => n (by simp [e])⟩
/-! ### walks over a written range -/
theorem mLc_rng1 {a : MA} {k : Int} {n : NT} {t : MT} {e : ME} {vs : List Nat} {s : Slo} {st st1 : Sto} (ha : a s st = .ok [.int k] st1) (h0 : 0 ≤ k) (h1 : k < 4611686018427387904) :
    mLc (mIRng1 a) n t e vs s st = (mLcLoop (.vals (rngW 0 k.toNat)) (NT.m n) t e (wipeW s vs) k.toNat 0 [] st1).bind fun ws st2 => .ok (.lst ws) st2 := by
  simp [ha]
  rw [if_pos (by omega)]
  simp
theorem rng1_ok {a : MA} {k : Int} {s : Slo} {st st1 : Sto} (ha : a s st = .ok [.int k] st1) (h0 : 0 ≤ k) (h1 : k < 4611686018427387904) : mIRng1 a s st = .ok (.vals (rngW 0 k.toNat)) st1 := by
  simp [ha]
  omega
theorem rng1_nat {a : MA} {k : Nat} {s : Slo} {st st1 : Sto} (ha : a s st = .ok [.int (k : Int)] st1) (h1 : k < 1000000000) : mIRng1 a s st = .ok (.vals (rngW 0 k)) st1 := by
  have h := rng1_ok ha (by omega) (by omega)
  rwa [Int.toNat_natCast] at h
theorem mFor_vals {it : MI} {g : MG} {b : MS} {s : Slo} {st st1 : Sto} {ws : List W} {n : Nat} {o : SO} (h : it s st = .ok (.vals ws) st1) (hn : ws.length = n) (k : mLoop (.vals ws) g b n 0 s st1 = o) : mFor it g b s st = o := by
  subst hn
  simp only [mFor, h, Out.run, Src.len_vals, k]
theorem mFor_rng1 {a : MA} {k : Int} {g : MG} {b : MS} {s : Slo} {st st1 : Sto} (ha : a s st = .ok [.int k] st1) (h0 : 0 ≤ k) (h1 : k < 4611686018427387904) :
    mFor (mIRng1 a) g b s st = mLoop (.vals (rngW 0 k.toNat)) g b k.toNat 0 s st1 := by
  simp [ha]
  rw [if_pos (by omega)]
  simp
end Mi
namespace Mi
open PySem L2
theorem mLc_of {it : MI} {n : NT} {t : MT} {e : ME} {vs : List Nat} {s : Slo} {st st1 : Sto} {ws : List W} (hi : it s st = .ok (.vals ws) st1) (hl : ws.length ≤ 1000000) (p : W → Bool) (q : W → W)
    (h : ∀ w ∈ ws, ∃ s2, NT.m n w (wipeW s vs) st1 = some (s2, st1) ∧ t s2 st1 = .ok (p w) st1 ∧ (p w = true → e s2 st1 = .ok (q w) st1)) : mLc it n t e vs s st = .ok (.lst ((ws.filter p).map q)) st1 := by
  simp only [mLc, hi, Out.bind, Src.len_vals, lc_vals p q (show ws.length ≤ sizeLine by rw [sizeLine_eq]; omega) h]
theorem mem_rng {lo : Int} {n : Nat} {w : W} (h : w ∈ rngW lo n) : ∃ k : Nat, k < n ∧ w = .int (lo + (k : Int)) := by
  simp only [rngW, List.mem_map, List.mem_range] at h
  obtain ⟨k, hk, rfl⟩ := h
  exact ⟨k, hk, rfl⟩
theorem mem_rng0 {n : Nat} {w : W} (h : w ∈ rngW 0 n) : ∃ k : Nat, k < n ∧ w = .int (k : Int) := by
  obtain ⟨k, hk, rfl⟩ := mem_rng h
  exact ⟨k, hk, by rw [Int.zero_add]⟩
/-! ### rows of True -/
theorem toPys_rep (b : Bool) : ∀ n : Nat, toPys (List.replicate n (.bl b)) = some (List.replicate n (.bool b))
  | 0 => rfl
  | n + 1 => by simp [List.replicate_succ, toPys, toPys_rep b n]
theorem lay_rep (b : Bool) : ∀ n : Nat, PyData.canLayAll0 (List.replicate n (.bool b)) = true
  | 0 => by simp
  | n + 1 => by simp [List.replicate_succ, lay_rep b n]
theorem dep_rep (b : Bool) : ∀ n : Nat, PyData.depthAll (List.replicate n (.bool b)) = 0
  | 0 => by simp
  | n + 1 => by simp [List.replicate_succ, dep_rep b n]
theorem isIn_true (st : Sto) (ws : List W) (h : ∀ w ∈ ws, w = .bl true) : isIn (.bl false) (.lst ws) st = some false := by
  rw [List.eq_replicate_of_mem h]
  generalize ws.length = n
  simp [isIn, toPyS, toPy, toPys_rep, lay_rep, dep_rep]
theorem toPy_ints (ns : List Int) : toPy (.tup (ns.map W.int)) = some (.tuple (ns.map PyData.int)) := by simp
/-- two tuples of numbers compared -/
theorem mEq_ints (ns ms : List Int) (st : Sto) : mEq (.tup (ns.map W.int)) (.tup (ms.map W.int)) st = .ok (.bl (decide (ns = ms))) st := by
  simp [lay_ints, dep_ints, eqvA_ints]
theorem mNe_ints (ns ms : List Int) (st : Sto) : mNe (.tup (ns.map W.int)) (.tup (ms.map W.int)) st = .ok (.bl (!decide (ns = ms))) st := by
  simp [lay_ints, dep_ints, eqvA_ints]
/-- a list in which all that is told of is one thing -/
theorem one_le {α : Type} (p : α → Bool) (a : α) : ∀ l : List α, l.Nodup → (∀ x ∈ l, p x = true → x = a) → (l.filter p).length ≤ 1
  | [], _, _ => by simp
  | x :: l, hn, h => by
    obtain ⟨h1, h2⟩ := List.nodup_cons.mp hn
    rw [List.filter_cons]
    split
    · rename_i hp
      have e := h x (by simp) hp
      subst e
      have : l.filter p = [] := List.filter_eq_nil_iff.mpr fun y hy hp => h1 (by rw [← h y (by simp [hy]) hp]; exact hy)
      rw [this]; simp
    · exact one_le p a l h2 fun y hy => h y (by simp [hy])
end Mi
namespace Mi
open PySem L2
theorem mEq_ii (i j : Int) (st : Sto) : mEq (.int i) (.int j) st = .ok (.bl (decide (i = j))) st := by simp
theorem mNe_ii (i j : Int) (st : Sto) : mNe (.int i) (.int j) st = .ok (.bl (!decide (i = j))) st := by simp
/-- is a number among numbers (a list as a value) -/
theorem isIn_ints (x : Int) (ns : List Int) (st : Sto) : isIn (.int x) (.lst (ns.map W.int)) st = some (decide (x ∈ ns)) := by
  have h : (ns.map PyData.int).any (fun z => PyData.eqv z (.int x)) = decide (x ∈ ns) := by
    induction ns with
    | nil => simp
    | cons n ns ih =>
      rw [List.map_cons, List.any_cons, ih, eqv_ii]
      by_cases h1 : x = n <;> by_cases h2 : x ∈ ns <;> simp [h1, h2, eq_comm]
  simp [isIn, lay_ints, dep_ints, h]
theorem mIn_ints (x : Int) (ns : List Int) (st : Sto) : mIn (.int x) (.lst (ns.map W.int)) st = .ok (.bl (decide (x ∈ ns))) st := by
  simp only [mIn, isIn_ints]
theorem mNotIn_ints (x : Int) (ns : List Int) (st : Sto) : mNotIn (.int x) (.lst (ns.map W.int)) st = .ok (.bl (!decide (x ∈ ns))) st := by
  simp only [mNotIn, isIn_ints]
theorem mEq_lints (ns ms : List Int) (st : Sto) : mEq (.lst (ns.map W.int)) (.lst (ms.map W.int)) st = .ok (.bl (decide (ns = ms))) st := by
  simp [lay_ints, dep_ints, eqvA_ints]
theorem mNe_lints (ns ms : List Int) (st : Sto) : mNe (.lst (ns.map W.int)) (.lst (ms.map W.int)) st = .ok (.bl (!decide (ns = ms))) st := by
  simp [lay_ints, dep_ints, eqvA_ints]
end Mi
namespace Mi
open PySem L2
/-! ### statement by statement -/
theorem seq_nx {a b : MS} {s s1 : Slo} {st st1 : Sto} {o : SO} (h : a s st = .nx s1 st1) (k : b s1 st1 = o) : mSeq a b s st = o := by
  simp only [mSeq, h, SO.then, k]
theorem seq_rt {a b : MS} {s : Slo} {st st1 : Sto} {w : W} (h : a s st = .rt w st1) : mSeq a b s st = .rt w st1 := by
  simp only [mSeq, h, SO.then]
theorem def_rt {n k : Nat} {body : MS} {ws : List W} {st st' : Sto} {w : W} (hl : ws.length = n) (h : body (ws.map some ++ List.replicate k none) st = .rt w st') : mDef n k body ws st = .ok w st' := by
  simp only [mDef, hl, if_true, h]
theorem def_nx {n k : Nat} {body : MS} {ws : List W} {st st' : Sto} {s' : Slo} (hl : ws.length = n) (h : body (ws.map some ++ List.replicate k none) st = .nx s' st') : mDef n k body ws st = .ok .non st' := by
  simp only [mDef, hl, if_true, h]
end Mi
namespace Mi
open PySem L2
theorem mLc_cell {it : MI} {nt : NT} {t : MT} {e : ME} {vs : List Nat} {s : Slo} {st st1 : Sto} {c n : Nat} {ws : List W} (hi : it s st = .ok (.cell c n) st1) (h0 : st1[c]? = some (.lst ws)) (hn : ws.length = n) (hl : n ≤ 1000000) (p : W → Bool) (q : W → W)
    (h : ∀ w ∈ ws, ∃ s2, NT.m nt w (wipeW s vs) st1 = some (s2, st1) ∧ t s2 st1 = .ok (p w) st1 ∧ (p w = true → e s2 st1 = .ok (q w) st1)) : mLc it nt t e vs s st = .ok (.lst ((ws.filter p).map q)) st1 := by
  have hc : (Src.cell c n).len = n := rfl
  have z := lc_cell_at p q h0 hn h n 0 [] (by omega) (by rw [sizeLine_eq]; simp; omega)
  simp only [mLc, hi, Out.bind, hc, z, List.nil_append, List.drop_zero]
end Mi
namespace Mi
open PySem L2
theorem app_lt0 {α : Type} {s t : List α} {i : Nat} {x : α} (h : s[i]? = some x) : (s ++ t)[i]? = some x := by
  rw [List.getElem?_append_left (List.getElem?_eq_some_iff.mp h).1]; exact h
end Mi
/-! The mirror layer, part X: own errors: raise X(), try: one call, except X: suite. -/
namespace Mi
open PySem L2 PyProof.Rows
/-- what the module's top says of an own class of errors without __init__ -/
structure XCls (K : PySem.W.Frag) (mg : Str → Option Value) (x : Str) (C : Addr) : Prop where
  g : mg x = some (.ref C)
  x : PySem.W.excIn K C [.type "ValueError", .type "Exception", .type "BaseException", .type "object"] "ValueError.__new__" = true
  k : PySem.W.keepIn K (.ref C) = true
  b : PySem.W.subIn K (.ref C) (.type "BaseException") = some true
  t : PySem.W.typeIn K (.ref C) = some (.type "type")
/-- X() -/
theorem pmk_own0 {X : Cx} {C : Addr} {x : Str} {p pos : Pos} (T : XCls X.K X.mg x C) (hg : Gl X x) (hdb : (x == ("__debug__" : Str)) = false := by decide) : PMk X (.Call (.Name x p) [] [] pos) (fun _ H Q => Q (.ref C) none H) := by
  intro pins s σ H Q I h
  refine wpAny_Call_Name_kw (ld_glob I hg T.g ?_ hdb)
  refine PySem.W.callWith_K0 I.kIn T.k ?_
  obtain ⟨bm, N, nm, qn, bs, hdct, sn, sub, ab, col, dd, k0, k1, k2, k3, k5, mN, hC, hN, hni, T2⟩ := exc_obj I.kIn T.x
  refine wpAny_call_exc_subT PySem.F.excBase_ValueError T2 hC hN hni (fun h' e hm => ?_) (Nat.zero_le _)
  exact mk_of I hm (raises_own T.b T.t) h (I.hok.gone hm.new)
@[simp] def mRaise (c : Nat) : MS := fun _ st => .exc c [] st
theorem js_raise0 {X : Cx} {Cl : Nat → Addr} {E : XK} {c : Nat} {x : Str} {p pos pos' : Pos} (T : XCls X.K X.mg x (Cl c)) (tk : Takes X (fun cls d _ H => E cls d H)) (hc : X.calm = true := by rfl) (hg : Gl X x := by rfl) (hdb : (x == ("__debug__" : Str)) = false := by decide) :
    JS X Cl E (.Raise (some (.Call (.Name x p) [] [] pos)) none pos') (mRaise c) :=
  ⟨_, ps_raise hc tk (pmk_own0 T hg hdb), fun β H σ s st D hr hs h => h β H none (Ext.refl _ β H) hr (.inl ⟨rfl, rfl⟩)⟩
/-! ### a call in a try's body -/
structure JC (X : Cx) (Cl : Nat → Addr) (W : WX) (e : Expr) (m : ME) : Prop where
  ex : ∃ t, PE X e t ∧ ∀ β H σ s st Q, HR X.K Cl β H st → SR X.K β H s σ → Po X.K Cl (WE W σ) β H Q (m s st) → t σ H Q
@[simp] def mCallX (n : Nat) (m : MF) (a : MA) : ME := fun s st => match a s st with
  | .ok ws st1 => if ws.length = n then m ws st1 else .stuck
  | _ => .stuck
theorem jc_call {X : Cx} {Cl : Nat → Addr} {W : WX} {k n f : Nat} {fd : FuncData} {ps : List Str} {m : MF} {x : Str} {e : Expr} {es : List Expr} {mr : MA} {p pos : Pos} (F : FnOk X.prog X.w X.K X.mg X.base (L2.CX X.prog X.w) k f fd ps (spM X.K Cl n m)) (tk : Takes X W) (hr : Room k X.A) (hm : X.mg x = some (.ref f)) (hk : PySem.W.keepIn X.K (.ref f) = true) (hb : Binds X.K fd ps [])
    (ha : JA X Cl E0 (e :: es) mr) (hg : Gl X x := by rfl) (hdb : (x == ("__debug__" : Str)) = false := by decide) (he : starEach (e :: es) X.env = (false, eval e X.env) :: starEach es X.env := by rfl) (hpl : (backTo pos (starEach es X.env)).any (·.1) = false := by rfl) :
    JC X Cl W (.Call (.Name x p) (e :: es) [] pos) (mCallX n m mr) := by
  obtain ⟨t, pr, q⟩ := ha.ex
  refine ⟨_, pe_callS F hr hg hm hk hb (fun σ => passAt tk σ) pr hdb he hpl, fun β H σ s st Q hr hs h => ?_⟩
  refine q β H σ s st _ hr hs ?_
  simp only [mCallX] at h
  cases ei : mr s st with
  | stuck => rw [ei] at h; exact h
  | exc c fs st1 => rw [ei] at h; exact h.elim
  | ok ws st1 =>
    rw [ei] at h
    intro β1 H1 vs e1 hr1 rv
    simp only at h
    split at h
    · rename_i hn
      exact ⟨by rw [← rv.length]; exact hn, β1, ws, st1, hr1, rv, PoG.ext e1 h⟩
    · exact h.elim
/-- the reading of a try's body, a single statement -/
def tBody (K : PySem.W.Frag) (Cl : Nat → Addr) (m : MS) (W : WX) : TS := fun D σ H => ∃ β s st, HR K Cl β H st ∧ SR K β H s σ ∧ PoS K Cl (WE W σ) D β H (m s st)
structure JB (X : Cx) (Cl : Nat → Addr) (W : WX) (es : List Stmt) (m : MS) : Prop where
  ps : PSs X es (tBody X.K Cl m W)
theorem pss_imp {X : Cx} {es : List Stmt} {t u : TS} (h : PSs X es t) (k : ∀ D σ H, u D σ H → t D σ H) : PSs X es u := ⟨fun pins s σ H D I q => h.run pins s σ H D I (k D σ H q)⟩
section
variable {X : Cx} {Cl : Nat → Addr} {W : WX} {e : Expr} {m : ME} {pos : Pos}
theorem jb_ret (h : JC X Cl W e m) : JB X Cl W [.Return (some e) pos] (mRet m) := by
  obtain ⟨t, p, q⟩ := h.ex
  refine ⟨pss_imp (pss_one (ps_ret p)) fun D σ H ⟨β, s, st, hr, hs, h⟩ => q β H σ s st _ hr hs ?_⟩
  exact h.run fun w st1 β1 H1 v _ e1 hr1 rv h1 => h1 β1 H1 v (Ext.refl _ _ _) hr1 rv
theorem jb_expr (h : JC X Cl W e m) (hsw : swapsWith e none pos.line X.env = pure false := by rfl) : JB X Cl W [.Expr e pos] (mDrop m) := by
  obtain ⟨t, p, q⟩ := h.ex
  refine ⟨pss_imp (pss_one (ps_expr p hsw)) fun D σ H ⟨β, s, st, hr, hs, h⟩ => q β H σ s st _ hr hs ?_⟩
  exact h.run fun w st1 β1 H1 v _ e1 hr1 rv h1 => PoS.val h1 hr1 (hs.ext e1)
theorem jb_set (i : Nat) {x : Str} {pos' : Pos} (hN : X.N.Nodup) (h : JC X Cl W e m) (hi : X.N[i]? = some x := by rfl) (hx : Loc X.env.scope x := by first | exact .inl rfl | exact .inr rfl) (hsw : swapsWith e (some (.Name x pos')) pos.line X.env = pure false := by rfl) (hf : X.fn x = true ∨ X.env.scope.names.lookup x = some .local := by first | exact .inl rfl | exact .inr rfl) :
    JB X Cl W [.Assign [.Name x pos'] e pos] (mAsg m (mGN i)) := by
  obtain ⟨t, p, q⟩ := h.ex
  refine ⟨pss_imp (pss_one (ps_set hN hi hx p hsw hf)) fun D σ H ⟨β, s, st, hr, hs, h⟩ => q β H σ s st _ hr hs ?_⟩
  exact h.run fun w st1 β1 H1 v _ e1 hr1 rv h1 => PoS.val h1 hr1 ((hs.ext e1).set rv)
end
/-! ### try: one call / except X: suite -/
/-- which errors a clause takes -/
def tabN : Nat → Option Bool := fun _ => none
def tabC (c : Nat) (b : Bool) (r : Nat → Option Bool) : Nat → Option Bool := fun n => if n = c then some b else r n
theorem tabN_ok {K : PySem.W.Frag} {Cl : Nat → Addr} {hc : Nat} : ∀ c b, tabN c = some b → PySem.W.exmOne K (.ref (Cl c)) (.ref (Cl hc)) = some b := fun c b h => by cases h
theorem tabC_ok {K : PySem.W.Frag} {Cl : Nat → Addr} {hc c0 : Nat} {b0 : Bool} {r : Nat → Option Bool} (h0 : PySem.W.exmOne K (.ref (Cl c0)) (.ref (Cl hc)) = some b0) (hr : ∀ c b, r c = some b → PySem.W.exmOne K (.ref (Cl c)) (.ref (Cl hc)) = some b) : ∀ c b, tabC c0 b0 r c = some b → PySem.W.exmOne K (.ref (Cl c)) (.ref (Cl hc)) = some b := fun c b h => by
  unfold tabC at h
  split at h
  · rename_i e
    subst e
    cases h
    exact h0
  · exact hr c b h
/-- a suite that raises is not served -/
@[simp] def calmS : SO → SO
  | .exc _ _ _ => .stuck
  | o => o
@[simp] def mTry1 (body : MS) (sub : Nat → Option Bool) (suite : MS) : MS := fun s st => match body s st with
  | .exc c fs st1 => match sub c with
    | some true => calmS (suite s st1)
    | some false => .exc c fs st1
    | none => .stuck
  | o => o
theorem js_try1 {X : Cx} {Cl : Nat → Addr} {E : XK} {hc : Nat} {x : Str} {body suite : List Stmt} {b₀ : Stmt} {np pos pos' : Pos} {mb ms : MS} {sub : Nat → Option Bool} (hm : X.mg x = some (.ref (Cl hc))) (tk : Takes X (fun cls d _ H => E cls d H))
    (hb : ∀ (W : WX) (pn : List (Addr × Obj)) (xe : Value → Shared → Prop), Takes (X.tr pn xe) W → JB (X.tr pn xe) Cl W body mb)
    (hsu : ∀ (a : Addr) (oe : Obj) (pn : List (Addr × Obj)), JSs (X.suite a ((a, oe) :: pn)) Cl E0 (b₀ :: suite) ms)
    (hsub : ∀ c b, sub c = some b → PySem.W.exmOne X.K (.ref (Cl c)) (.ref (Cl hc)) = some b)
    (hs : X.stack = X.env :: X.outer := by rfl) (hf : X.env.frame = some X.env.locals := by rfl) (hg : Gl X x := by rfl) (hdb : (x == ("__debug__" : Str)) = false := by decide) :
    JS X Cl E (.Try body [.ExceptHandler (some (.Name x np)) none (b₀ :: suite) pos'] [] [] pos) (mTry1 mb sub ms) := by
  refine ⟨_, ps_try_only (tb := fun W => tBody X.K Cl mb W) (ts := fun _ _ _ D σ H => ∃ β s st, HR X.K Cl β H st ∧ SR X.K β H s σ ∧ PoS X.K Cl E0 D β H (ms s st)) hs hf ⟨hg, hdb, .inl hm⟩ tk (fun W pn xe t _ => (hb W pn xe t).ps) (fun a oe cls d pn _ _ => ?_), fun β H σ s st D hr hs h => ⟨β, s, st, hr, hs, ?_⟩⟩
  · obtain ⟨t, p, q⟩ := (hsu a oe pn).ex
    exact pss_imp p fun D σ H ⟨β, s, st, hr, hs, h⟩ => q β H σ s st D hr hs h
  · simp only [mTry1] at h
    cases ei : mb s st with
    | exc c fs st1 =>
      rw [ei] at h
      simp only at h
      intro β1 H1 d e1 hr1 rx
      cases es : sub c with
      | none => rw [es] at h; exact h.elim
      | some b =>
        rw [es] at h
        refine ⟨b, hsub c b es, fun hb a ha => ?_, fun hb => ?_⟩
        · subst hb
          have h2 := PoS.ext e1 h
          refine ⟨β1, s, st1, hr1, hs.ext e1, ?_⟩
          simp only at h2
          cases eo : ms s st1 with
          | exc c2 fs2 st2 => rw [eo] at h2; exact h2.elim
          | nx s2 st2 => rw [eo] at h2; exact h2
          | rt w st2 => rw [eo] at h2; exact h2
          | bk s2 st2 => rw [eo] at h2; exact h2
          | ct s2 st2 => rw [eo] at h2; exact h2
          | stuck => rw [eo] at h2; exact h2
        · subst hb
          exact h β1 H1 d e1 hr1 rx
    | nx s1 st1 => rw [ei] at h; exact h
    | rt w st1 => rw [ei] at h; exact h
    | bk s1 st1 => rw [ei] at h; exact h
    | ct s1 st1 => rw [ei] at h; exact h
    | stuck => rw [ei] at h; exact h
/-! ### statement by statement -/
theorem defX_rt {n k : Nat} {body : MS} {ws : List W} {st st' : Sto} {w : W} (hl : ws.length = n) (h : body (ws.map some ++ List.replicate k none) st = .rt w st') : mDefX n k body ws st = .ok w st' := by
  simp only [mDefX, hl, if_true, h]
theorem defX_nx {n k : Nat} {body : MS} {ws : List W} {st st' : Sto} {s' : Slo} (hl : ws.length = n) (h : body (ws.map some ++ List.replicate k none) st = .nx s' st') : mDefX n k body ws st = .ok .non st' := by
  simp only [mDefX, hl, if_true, h]
theorem defX_exc {n k c : Nat} {fs : Fl} {body : MS} {ws : List W} {st st' : Sto} (hl : ws.length = n) (h : body (ws.map some ++ List.replicate k none) st = .exc c fs st') : mDefX n k body ws st = .exc c fs st' := by
  simp only [mDefX, hl, if_true, h]
theorem seq_exc {a b : MS} {s : Slo} {st st1 : Sto} {c : Nat} {fs : Fl} (h : a s st = .exc c fs st1) : mSeq a b s st = .exc c fs st1 := by
  simp only [mSeq, h, SO.then]
end Mi
/-! The mirror layer, part Y: try with several clauses, named or not; errors with fields of their own; what a suite asks of its error. -/
namespace Mi
open PySem L2
open PyProof.Rows hiding St

/-! ### the clauses of a try -/
/-- an error stands caught in this frame; h3 is the heap at which its clauses are asked -/
structure Got (X : Cx) (pins : List (Addr × Obj)) (σ : St) (H : Hp) (s : Shared) (a : Addr) (cls : Value) (d : Option Addr) (B : Heap) (sI : Shared) (h3 : Heap) : Prop where
  inv : Inv X pins σ H sI
  low : ∀ b o, sI.heap.get? b = some o → b ∉ frs X.stack → B.get? b = some o
  up : sI.heap.UpToSlots h3
  os : s.os = sI.os
  ag : AllBare s.gens
  fl : HandSPX.FlyingZ B (X.env :: X.outer) a (Zc cls d) h3
  na : H a = none
theorem Got.enter {X : Cx} {pins : List (Addr × Obj)} {σ : St} {H : Hp} {s sI : Shared} {a : Addr} {cls : Value} {d : Option Addr} {B h3 h4 : Heap} (G : Got X pins σ H s a cls d B sI h3) (hf : X.env.frame = some X.env.locals)
    (fl : HandSPX.FlyingZ B (X.env :: X.outer) a (Zc cls d) h4) (up : h3.UpToSlots h4) : ∃ oe, Zc cls d oe ∧ (∃ vs, oe.data = .fields vs) ∧ h4.get? a = some oe ∧ Inv X pins σ H { s with heap := h4 } ∧ Inv (X.suite a ((a, oe) :: (X.pn ++ pins))) [] σ H { s with heap := h4 } := by
  have J : Inv X pins σ H { s with heap := h4 } := G.inv.landed G.low fl.1 (G.up.trans up) G.os G.ag
  obtain ⟨oe, vs, he, hz, hd⟩ := fl.there
  have out : a ∉ frs (X.env :: X.outer) := fun hm => by
    obtain ⟨_, o2, g2, nf⟩ := fl.2.2.1.mem hm
    have : oe = o2 := Option.some.inj (he.symm.trans g2)
    exact nf vs (this ▸ hd)
  have n1 : a ≠ X.env.locals := fun z => out (List.mem_filterMap.mpr ⟨X.env, List.mem_cons_self, hf.trans (congrArg some z.symm)⟩)
  have n2 : a ∉ X.fs := fun hm => by
    obtain ⟨e2, m2, q2⟩ := List.mem_filterMap.mp hm
    exact out (List.mem_filterMap.mpr ⟨e2, List.mem_cons_of_mem _ m2, q2⟩)
  exact ⟨oe, hz, ⟨vs, hd⟩, he, J, J.suite he hd G.na n1 n2⟩
/-- what is wished of a suite's ends: its name goes -/
def Ends.drop (D : Ends) : Option Nat → Ends
  | none => D
  | some i => { nx := fun σ' H' => D.nx (σ'.set i none) H', rt := D.rt, bk := fun σ' H' => D.bk (σ'.set i none) H', ct := fun σ' H' => D.ct (σ'.set i none) H' }
def bindE (a : Addr) (σ : St) : Option Nat → St
  | none => σ
  | some i => σ.set i (some (.ref a))
abbrev Cls1 := Value × Option Nat × (Addr → Value → Option Addr → TS)
/-- what the clauses wish of an error, one after the other -/
def wList (K : PySem.W.Frag) (Wout : WX) (D : Ends) : List Cls1 → WX
  | [] => Wout
  | (c, i, ts) :: r => fun cls d σ H => ∃ b, PySem.W.exmOne K cls c = some b ∧ (b = true → ∀ a, H a = none → ts a cls d (Ends.drop D i) (bindE a σ i) H) ∧ (b = false → wList K Wout D r cls d σ H)
inductive Cla (X : Cx) : List ExceptHandler → List Cls1 → Prop
  | nil : Cla X [] []
  | cons0 {x : Str} {c : Value} {ts : Addr → Value → Option Addr → TS} {b₀ : Stmt} {suite : List Stmt} {np pos' : Pos} {hds : List ExceptHandler} {l : List Cls1} (hc : Names X x c)
      (hsu : ∀ (a : Addr) (oe : Obj) (cls : Value) (d : Option Addr) (pn : List (Addr × Obj)), Zc cls d oe → (∃ vs, oe.data = .fields vs) → PSs (X.suite a ((a, oe) :: pn)) (b₀ :: suite) (ts a cls d)) (r : Cla X hds l) :
      Cla X (.ExceptHandler (some (.Name x np)) none (b₀ :: suite) pos' :: hds) ((c, none, ts) :: l)
  | cons1 {x n : Str} {i : Nat} {c : Value} {ts : Addr → Value → Option Addr → TS} {b₀ : Stmt} {suite : List Stmt} {np pos' : Pos} {hds : List ExceptHandler} {l : List Cls1} (hc : Names X x c) (hi : X.N[i]? = some n) (hl : X.env.kindOf n = some .local)
      (hsu : ∀ (a : Addr) (oe : Obj) (cls : Value) (d : Option Addr) (pn : List (Addr × Obj)), Zc cls d oe → (∃ vs, oe.data = .fields vs) → PSs (X.suite a ((a, oe) :: pn)) (b₀ :: suite) (ts a cls d)) (r : Cla X hds l) :
      Cla X (.ExceptHandler (some (.Name x np)) (some n) (b₀ :: suite) pos' :: hds) ((c, some i, ts) :: l)
section
variable {X : Cx} {pins : List (Addr × Obj)} {σ : St} {H : Hp} {s sI : Shared} {a : Addr} {cls : Value} {d : Option Addr} {B h3 : Heap} {D : Ends} {Wout : WX}
/-- a clause's class is looked up and asked -/
theorem Got.asks (G : Got X pins σ H s a cls d B sI h3) (hf : X.env.frame = some X.env.locals) {x : Str} {c : Value} {np : Pos} {b : Bool} (hc : Names X x c) (hb : PySem.W.exmOne X.K cls c = some b) {Q : Bool → Shared → Prop} {E : Value → Shared → Prop}
    (hq : Q b { s with heap := h3 }) : wpAny (model X.prog X.w) (X.A.mark (some (.ref a))) (do let v ← eval (.Name x np) X.env; excMatches (.ref a) v) Q E { s with heap := h3 } := by
  obtain ⟨oe, hz, hd, he, J, S⟩ := G.enter hf G.fl (fun b o e n => ⟨o.slots, e⟩)
  have ty : PySem.W.Looks (model X.prog X.w) h3 (typeOf (.ref a)) cls := fun A Q E s2 keep k => wpAny_typeOf_ref (keep _ _ he) (by rw [hz.1]; exact k)
  have look := PySem.W.exm_one (M := model X.prog X.w) J.kIn ty hb
  refine wpAny_bind ?_
  obtain ⟨hg, hdbg, hm | ⟨hm, hv, hnn⟩⟩ := hc
  · exact ld_glob (X := X.suite a ((a, oe) :: (X.pn ++ pins))) S hg hm (look.here hq) hdbg
  · exact ld_blt (X := X.suite a ((a, oe) :: (X.pn ++ pins))) S hg hm hv (look.here hq) hnn hdbg
theorem Got.asks' (G : Got X pins σ H s a cls d B sI h3) (hf : X.env.frame = some X.env.locals) {x : Str} {c : Value} {np : Pos} (hc : Names X x c) {Q : Value → Shared → Prop} {E : Value → Shared → Prop} (hq : Q c { s with heap := h3 }) :
    wpAny (model X.prog X.w) (X.A.mark (some (.ref a))) (eval (.Name x np) X.env) Q E { s with heap := h3 } := by
  obtain ⟨oe, hz, hd, he, J, S⟩ := G.enter hf G.fl (fun b o e n => ⟨o.slots, e⟩)
  obtain ⟨hg, hdbg, hm | ⟨hm, hv, hnn⟩⟩ := hc
  · exact ld_glob (X := X.suite a ((a, oe) :: (X.pn ++ pins))) S hg hm hq hdbg
  · exact ld_blt (X := X.suite a ((a, oe) :: (X.pn ++ pins))) S hg hm hv hq hnn hdbg
theorem Got.look (G : Got X pins σ H s a cls d B sI h3) (hf : X.env.frame = some X.env.locals) {c : Value} {b : Bool} (hb : PySem.W.exmOne X.K cls c = some b) : PySem.W.Looks (model X.prog X.w) h3 (excMatches (.ref a) c) b := by
  obtain ⟨oe, hz, hd, he, J, S⟩ := G.enter hf G.fl (fun b o e n => ⟨o.slots, e⟩)
  exact PySem.W.exm_one (M := model X.prog X.w) J.kIn (fun A Q E s2 keep k => wpAny_typeOf_ref (keep _ _ he) (by rw [hz.1]; exact k)) hb
/-- no clause is left: the error flies on -/
theorem Got.none_left (G : Got X pins σ H s a cls d B sI h3) (hs : X.stack = X.env :: X.outer) (hf : X.env.frame = some X.env.locals) (tk : Takes X Wout) (w : Wout cls d σ H) :
    wpAny (model X.prog X.w) X.A (handleBy (.ref a) X.env []) (SP X pins D) X.xe { s with heap := h3 } := by
  refine wpAny_handleBy_nil ?_
  obtain ⟨-, -, -, oe, vs, T, oT, ts, he, -, hd, h1, -⟩ := id G.fl
  have off : wpAny (model X.prog X.w) X.A (setFlight (.ref a) X.env.frame) (fun _ s4 => wpAny (model X.prog X.w) X.A (throw (.ref a) : Sem Flow) (SP X pins D) X.xe s4) X.xe { s with heap := h3 } := by
    rw [hf]
    exact HandSPX.setFlight_upZ G.fl fun h4 held up4 => wpAny_throw (tk _ _ ⟨a, B, sI, pins, σ, H, cls, d, rfl, G.inv, G.low, G.up.trans up4, .inr (.inr (hs ▸ held)), G.na, G.os, G.ag, w⟩)
  unfold PySem.passOn
  refine wpAny_bind (wpAny_field he hd h1 ?_)
  rw [if_neg (by simp)]
  first
    | exact wpAny_bind (wpAny_pure (wpAny_bind off))
    | exact wpAny_bind off
theorem Got.run (G : Got X pins σ H s a cls d B sI h3) (hs : X.stack = X.env :: X.outer) (hf : X.env.frame = some X.env.locals) (hN : X.N.Nodup) (tk : Takes X Wout) {hds : List ExceptHandler} {l : List Cls1} (hk : Cla X hds l) (w : wList X.K Wout D l cls d σ H) :
    wpAny (model X.prog X.w) X.A (handleBy (.ref a) X.env hds) (SP X pins D) X.xe { s with heap := h3 } := by
  induction hk with
  | nil => exact G.none_left hs hf tk w
  | cons0 hc hsu r ih =>
    obtain ⟨b, hb, yes, no⟩ := w
    refine wpAny_handleBy_cons (codeAny_handlers_test ?_) (fun q => nomatch q)
    refine G.asks' hf hc ((G.look hf hb).here ?_)
    cases b with
    | false => exact ih (no rfl)
    | true =>
      refine codeAny_handlers_suite (HandSPX.lands_againZ G.fl fun h4 fl4 up4 => ?_)
      obtain ⟨oe, hz, hd, -, J, S⟩ := G.enter hf fl4 up4
      refine wpAny_mono ((hsu a oe cls d (X.pn ++ pins) hz hd).run [] _ _ H D S (yes rfl a G.na)) (fun f s6 e6 => ?_) (fun _ _ z => z.elim)
      cases f with
      | ret u => obtain ⟨v, σ6, H6, I6, r6, q6⟩ := e6; exact ⟨v, σ6, H6, I6.unsuite G.inv.ok, r6, q6⟩
      | _ => obtain ⟨σ6, H6, I6, q6⟩ := e6; exact ⟨σ6, H6, I6.unsuite G.inv.ok, q6⟩
  | @cons1 x n i c ts b₀ suite np pos' hds2 l2 hc hi hl hsu r ih =>
    obtain ⟨b, hb, yes, no⟩ := w
    refine wpAny_handleBy_cons (codeAny_handlers_test ?_) (fun q => nomatch q)
    refine G.asks' hf hc ((G.look hf hb).here ?_)
    cases b with
    | false => exact ih (no rfl)
    | true =>
      refine codeAny_handlers_suite_as (HandSPX.lands_againZ G.fl fun h4 fl4 up4 => ?_)
      obtain ⟨oe, hz, hd, -, J, S⟩ := G.enter hf fl4 up4
      refine store_ok (X := X.suite a ((a, oe) :: (X.pn ++ pins))) (v := .ref a) S hN hi (.inl hl) rfl (fun s5 S5 => ?_) (.inr hl)
      refine wpAny_mono ((hsu a oe cls d (X.pn ++ pins) hz hd).run [] _ _ H _ S5 (yes rfl a G.na)) (fun f s6 e6 => ?_) (fun _ _ z => z.elim)
      have gone : ∀ {σ6 : St} {H6 : Hp} {Q : Shared → Prop}, Inv (X.suite a ((a, oe) :: (X.pn ++ pins))) [] σ6 H6 s6 → (∀ s7, Inv X pins (σ6.set i none) H6 s7 → Q s7) →
          wpAny (model X.prog X.w) X.A (do bindName X.env n .none; unbindBehindTheSuite X.env n pos') (fun _ s7 => Q s7) X.xe s6 := fun I6 k => gone_ok (I6.unsuite G.inv.ok) hN hi hl k
      cases f with
      | ret u => obtain ⟨v, σ6, H6, I6, r6, q6⟩ := e6; exact gone I6 fun s7 J7 => ⟨v, _, _, J7, r6, q6⟩
      | next => obtain ⟨σ6, H6, I6, q6⟩ := e6; exact gone I6 fun s7 J7 => ⟨_, _, J7, q6⟩
      | brk => obtain ⟨σ6, H6, I6, q6⟩ := e6; exact gone I6 fun s7 J7 => ⟨_, _, J7, q6⟩
      | cont => obtain ⟨σ6, H6, I6, q6⟩ := e6; exact gone I6 fun s7 J7 => ⟨_, _, J7, q6⟩
end
theorem ps_tryC {X : Cx} {body : List Stmt} {h₀ : ExceptHandler} {hds : List ExceptHandler} {l : List Cls1} {pos : Pos} {tb : WX → TS} {Wout : WX} (hs : X.stack = X.env :: X.outer) (hf : X.env.frame = some X.env.locals) (hN : X.N.Nodup) (tk : Takes X Wout)
    (hb : ∀ (W : WX) (pn : List (Addr × Obj)) (xe : Value → Shared → Prop), Takes (X.tr pn xe) W → PassesOwn (model X.prog X.w) X.A X.env xe → PSs (X.tr pn xe) body (tb W))
    (hh : Cla X (h₀ :: hds) l) : PS X (.Try body (h₀ :: hds) [] [] pos) (fun D σ H => tb (wList X.K Wout D l) D σ H) := by
  refine ⟨fun pins s σ H D I h => wpAny_Try_except ?_⟩
  have ok := I.ok
  have hfr : X.A.frames = some (X.env :: X.outer) := ok.frames.trans (congrArg some hs)
  have run := (hb (wList X.K Wout D l) (X.pn ++ pins) (fun e s₁ => wpAny (model X.prog X.w) X.A (noteFrame e X.env) (fun _ s₂ => wpAny (model X.prog X.w) X.A (setFlight e none) (fun _ s₃ =>
    wpAny (model X.prog X.w) X.A (handleBy e X.env (h₀ :: hds)) (SP X pins D) X.xe s₃) X.xe s₂) X.xe s₁) (fun u s' xx => ?_) PassesOwn.looking).run [] s σ H D (I.toTry _) h
  · refine wpAny_mono run (fun f s1 e1 => ?_) (fun e s1 z => z)
    cases f with
    | ret u => obtain ⟨v, σ1, H1, I1, r1, q1⟩ := e1; exact ⟨v, σ1, H1, I1.ofTry ok, r1, q1⟩
    | next => obtain ⟨σ1, H1, I1, q1⟩ := e1; exact wpAny_execs_nil ⟨σ1, H1, I1.ofTry ok, q1⟩
    | brk => obtain ⟨σ1, H1, I1, q1⟩ := e1; exact ⟨σ1, H1, I1.ofTry ok, q1⟩
    | cont => obtain ⟨σ1, H1, I1, q1⟩ := e1; exact ⟨σ1, H1, I1.ofTry ok, q1⟩
  · obtain ⟨a, B, sI, pins2, σ1, H1, cls, d, rfl, I1, low, up, sky, na, os, ag, w⟩ := xx
    have sky2 : Sky B (X.env :: X.outer) a (Zc cls d) X.env.locals s'.heap := hs ▸ sky
    exact Sky.land Zc.steady hfr hf sky2 fun h3 fl3 up3 => Got.run ⟨I1.ofTry ok, low, up.trans up3, os, ag, fl3, na⟩ hs hf hN tk hh w
end Mi
/-! The mirror layer, part Z: named clauses: what a suite asks of its error; errors with fields. -/
namespace Mi
open PySem L2
/-- the error in hand: slot i holds it, its fields are fs -/
def Hand (K : PySem.W.Frag) (β : Bt) (H : Hp) (σ : St) (i : Nat) (a : Addr) (fs : Fl) (d : Option Addr) : Prop :=
  σ[i]? = some (some (.ref a)) ∧ ((fs = [] ∧ d = none) ∨ ∃ dd gs, d = some dd ∧ dd ∈ β.pr ∧ H dd = some (.xd gs) ∧ RF K β H fs gs)
theorem Hand.ext {K : PySem.W.Frag} {β β' : Bt} {H H' : Hp} {σ : St} {i : Nat} {a : Addr} {fs : Fl} {d : Option Addr} (h : Hand K β H σ i a fs d) (e : Ext K β H β' H') : Hand K β' H' σ i a fs d := by
  refine ⟨h.1, h.2.imp (fun x => x) ?_⟩
  rintro ⟨dd, gs, h1, h2, h3, h4⟩
  obtain ⟨q1, q2⟩ := e.prot dd h2 _ h3
  exact ⟨dd, gs, h1, q1, q2, h4.ext e⟩
structure QE (X : Cx) (Cl : Nat → Addr) (i : Nat) (a : Addr) (fs : Fl) (d : Option Addr) (e : Expr) (m : ME) : Prop where
  ex : ∃ t, PE X e t ∧ ∀ β H σ s st Q, HR X.K Cl β H st → SR X.K β H s σ → Hand X.K β H σ i a fs d → Po X.K Cl E0 β H Q (m s st) → t σ H Q
structure QA (X : Cx) (Cl : Nat → Addr) (i : Nat) (a : Addr) (fs : Fl) (d : Option Addr) (es : List Expr) (m : MA) : Prop where
  ex : ∃ t, PA X es t ∧ ∀ β H σ s st Q, HR X.K Cl β H st → SR X.K β H s σ → Hand X.K β H σ i a fs d → PoL X.K Cl E0 β H Q (m s st) → t σ H Q
structure QT (X : Cx) (Cl : Nat → Addr) (i : Nat) (a : Addr) (fs : Fl) (d : Option Addr) (e : Expr) (m : MT) : Prop where
  ex : ∃ t, PT X e t ∧ ∀ β H σ s st Q, HR X.K Cl β H st → SR X.K β H s σ → Hand X.K β H σ i a fs d → PoB X.K Cl E0 β H Q (m s st) → t σ H Q
structure QW (X : Cx) (Cl : Nat → Addr) (i : Nat) (a : Addr) (fs : Fl) (d : Option Addr) (e : Expr) (m : MT) : Prop where
  ex : ∃ t, PW X e t ∧ ∀ β H σ s st Q, HR X.K Cl β H st → SR X.K β H s σ → Hand X.K β H σ i a fs d → PoB X.K Cl E0 β H Q (m s st) → t σ H Q
structure QS (X : Cx) (Cl : Nat → Addr) (i : Nat) (a : Addr) (fs : Fl) (d : Option Addr) (es : List Stmt) (m : MS) : Prop where
  ex : ∃ t, PSs X es t ∧ ∀ β H σ s st D, HR X.K Cl β H st → SR X.K β H s σ → Hand X.K β H σ i a fs d → PoS X.K Cl E0 D β H (m s st) → t D σ H
section
variable {X : Cx} {Cl : Nat → Addr} {i : Nat} {a : Addr} {fs : Fl} {d : Option Addr} {pos : Pos}
theorem qe_of {e : Expr} {m : ME} (h : JE X Cl E0 e m) : QE X Cl i a fs d e m := by
  obtain ⟨t, p, q⟩ := h.ex
  exact ⟨t, p, fun β H σ s st Q hr hs _ h => q β H σ s st Q hr hs h⟩
theorem qe_cmp {x y : Expr} {mx my : ME} {op : CmpOp} {r : R2} {m : M2} (ho : OpR X (compareOp op) r ∧ SOp X.K Cl E0 r m) (hx : QE X Cl i a fs d x mx) (hy : QE X Cl i a fs d y my) (hm : behindInMarks op y = false) : QE X Cl i a fs d (.Compare x [op] [y] pos) (mOp m mx my) := by
  obtain ⟨_, p1, q1⟩ := hx.ex
  obtain ⟨_, p2, q2⟩ := hy.ex
  refine ⟨_, pe_cmpR ho.1 p1 p2 hm, fun β H σ s st Q hr hs hh h => q1 β H σ s st _ hr hs hh (h.bind fun x st1 β1 H1 v _ e1 hr1 rx h1 => q2 β1 H1 σ s st1 _ hr1 (hs.ext e1) (hh.ext e1) (h1.bind fun y st2 β2 H2 u _ e2 hr2 ry h2 => ?_))⟩
  exact ho.2 β2 H2 st2 x y v u Q hr2 (rx.ext e2) ry h2
theorem qe_one {op : BoolOp} {x : Expr} {mx : ME} (h : QE X Cl i a fs d x mx) : QE X Cl i a fs d (.BoolOp op [x] pos) mx := by
  obtain ⟨t, p, q⟩ := h.ex
  exact ⟨t, pe_one p, q⟩
theorem qe_and {x y : Expr} {rest : List Expr} {mx my : ME} (hx : QE X Cl i a fs d x mx) (hy : QE X Cl i a fs d (.BoolOp .And (y :: rest) pos) my) : QE X Cl i a fs d (.BoolOp .And (x :: y :: rest) pos) (mAndV mx my) := by
  obtain ⟨_, p1, q1⟩ := hx.ex
  obtain ⟨_, p2, q2⟩ := hy.ex
  refine ⟨_, pe_andT p1 p2, fun β H σ s st Q hr hs hh h => q1 β H σ s st _ hr hs hh (h.bind fun x st1 β1 H1 v _ e1 hr1 rx h1 => ?_)⟩
  split at h1
  · rename_i e
    exact ⟨true, truth_ok hr1 rx e, by rw [if_pos rfl]; exact q2 β1 H1 σ s st1 Q hr1 (hs.ext e1) (hh.ext e1) h1⟩
  · rename_i e
    exact ⟨false, truth_ok hr1 rx e, by rw [if_neg Bool.false_ne_true]; exact PoG.val h1 hr1 rx⟩
  · exact h1.elim
theorem qa_nil : QA X Cl i a fs d [] mNil := ⟨_, pa_nil, fun β H σ s st Q hr hs _ h => PoG.val h hr .nil⟩
theorem qa_cons {e : Expr} {es : List Expr} {ma : ME} {mr : MA} (ha : QE X Cl i a fs d e ma) (hr : QA X Cl i a fs d es mr) (hs : starEach (e :: es) X.env = (false, eval e X.env) :: starEach es X.env := by rfl) : QA X Cl i a fs d (e :: es) (mCons ma mr) := by
  obtain ⟨_, p1, q1⟩ := ha.ex
  obtain ⟨_, p2, q2⟩ := hr.ex
  refine ⟨_, pa_cons p1 p2 hs, fun β H σ s st Q hr hs hh h => q1 β H σ s st _ hr hs hh (h.bind fun x st1 β1 H1 v _ e1 hr1 rx h1 => q2 β1 H1 σ s st1 _ hr1 (hs.ext e1) (hh.ext e1) (h1.bind fun y st2 β2 H2 u _ e2 hr2 ry h2 => ?_))⟩
  exact PoG.val h2 hr2 (.cons (rx.ext e2) ry)
theorem qe_tup {k : Nat} {es : List Expr} {mr : MA} (h : QA X Cl i a fs d es mr) : QE X Cl i a fs d (.Tuple es k pos) (mTup mr) := by
  obtain ⟨_, p, q⟩ := h.ex
  refine ⟨_, pe_tup p, fun β H σ s st Q hr hs hh h => q β H σ s st _ hr hs hh (h.bind fun x st1 β1 H1 v _ e1 hr1 rx h1 => ?_)⟩
  split at h1
  · rename_i hz
    exact ⟨by rw [← rx.length]; exact hz, fun l hl => Po.tup h1 hr1 hl rx⟩
  · exact h1.elim
theorem qt_tru {e : Expr} {m : ME} (h : QE X Cl i a fs d e m) (he : ∀ whole, isTrue e X.env whole = (do let v ← whole; standAt e.pos; holding [v] (truthy v)) := by intro _; rfl) : QT X Cl i a fs d e (mTru m) := by
  obtain ⟨t, p1, q1⟩ := h.ex
  refine ⟨_, pt_truth p1 he, fun β H σ s st Q hr hs hh hp => q1 β H σ s st _ hr hs hh (hp.bind fun x st1 β1 H1 v _ e1 hr1 rx h1 => ?_)⟩
  split at h1
  · rename_i k e
    exact ⟨k, truth_ok hr1 rx e, PoG.val h1 hr1 rfl⟩
  · exact h1.elim
theorem qt_w {e : Expr} {m : MT} (h : QW X Cl i a fs d e m) : QT X Cl i a fs d e m := by
  obtain ⟨t, p, q⟩ := h.ex
  exact ⟨t, p.pt, q⟩
theorem qw_and1 {e : Expr} {m : MT} (h : QT X Cl i a fs d e m) : QW X Cl i a fs d (.BoolOp .And [e] pos) m := by
  obtain ⟨t, p, q⟩ := h.ex
  exact ⟨t, pw_and1 p, q⟩
theorem qw_and {x y : Expr} {rest : List Expr} {mx my : MT} (ha : QT X Cl i a fs d x mx) (hb : QW X Cl i a fs d (.BoolOp .And (y :: rest) pos) my) : QW X Cl i a fs d (.BoolOp .And (x :: y :: rest) pos) (mTAnd mx my) := by
  obtain ⟨_, p1, q1⟩ := ha.ex
  obtain ⟨_, p2, q2⟩ := hb.ex
  refine ⟨_, pw_and p1 p2, fun β H σ s st Q hr hs hh h => q1 β H σ s st _ hr hs hh (h.bind fun x st1 β1 H1 v _ e1 hr1 rx h1 => ?_)⟩
  cases rx
  cases x with
  | true => rw [if_pos rfl] at h1 ⊢; exact q2 β1 H1 σ s st1 Q hr1 (hs.ext e1) (hh.ext e1) h1
  | false => rw [if_neg Bool.false_ne_true] at h1 ⊢; exact PoG.val h1 hr1 rfl
theorem qs_of {es : List Stmt} {m : MS} (h : JSs X Cl E0 es m) : QS X Cl i a fs d es m := by
  obtain ⟨t, p, q⟩ := h.ex
  exact ⟨t, p, fun β H σ s st D hr hs _ h => q β H σ s st D hr hs h⟩
theorem qs_ret {e : Expr} {m : ME} (h : QE X Cl i a fs d e m) : QS X Cl i a fs d [.Return (some e) pos] (mRet m) := by
  obtain ⟨_, p, q⟩ := h.ex
  refine ⟨_, pss_one (ps_ret p), fun β H σ s st D hr hs hh h => q β H σ s st _ hr hs hh ?_⟩
  exact h.run fun w st1 β1 H1 v _ e1 hr1 rv h1 => h1 β1 H1 v (Ext.refl _ _ _) hr1 rv
/-- if test: suite, and what follows -/
theorem qs_if {c : Expr} {as rest : List Stmt} {mc : MT} {m1 m2 : MS} (hc : QT X Cl i a fs d c mc) (h1 : JSs X Cl E0 as m1) (h2 : JSs X Cl E0 rest m2) : QS X Cl i a fs d (.If c as [] pos :: rest) (mSeq (mIfS mc m1 mSkip) m2) := by
  obtain ⟨_, p, q⟩ := hc.ex
  obtain ⟨_, p1, q1⟩ := h1.ex
  obtain ⟨w2, p2, q2⟩ := h2.ex
  obtain ⟨_, p0, q0⟩ := (jss_nil (X := X) (Cl := Cl) (E := E0)).ex
  refine ⟨_, pss_cons (ps_if p p1 p0) p2, fun β H σ s st D hr hs hh h => ?_⟩
  refine q β H σ s st _ hr hs hh ?_
  simp only [mSeq, mIfS] at h
  cases e : mc s st with
  | stuck => rw [e] at h; exact h.elim
  | exc c fs2 st1 => rw [e] at h; exact h
  | ok k st1 =>
    rw [e] at h
    intro β1 H1 b e1 hr1 eb
    subst eb
    have h' := PoS.ext e1 h
    have thn : ∀ (o : SO) (t1 : TS), (∀ D', PoS X.K Cl E0 D' β1 H1 o → t1 D' σ H1) → PoS X.K Cl E0 D β1 H1 (o.then m2) → t1 { D with nx := w2 D } σ H1 := fun o t1 k1 k2 => k1 _ (by
      cases o with
      | nx s2 st2 => exact fun β2 H2 σ2 e2 hr2 hs2 => q2 β2 H2 σ2 s2 st2 D hr2 hs2 (PoS.ext e2 k2)
      | rt w2 st2 => exact k2
      | bk s2 st2 => exact k2
      | ct s2 st2 => exact k2
      | exc c fs2 st2 => exact k2
      | stuck => exact k2)
    cases k with
    | true =>
      rw [if_pos rfl]
      exact thn (m1 s st1) _ (fun D' z => q1 β1 H1 σ s st1 D' hr1 (hs.ext e1) z) h'
    | false =>
      rw [if_neg Bool.false_ne_true]
      exact thn (mSkip s st1) _ (fun D' z => q0 β1 H1 σ s st1 D' hr1 (hs.ext e1) z) h'
end
/-! ### isinstance(e, C), e.f -/
theorem kit_ref {K : PySem.W.Frag} {D C : Addr} (hd : PySem.W.hasDictIn K C = true) (ht : PySem.W.typeIn K (.ref C) = some (.type "type")) (hs : PySem.W.subIn K (.ref D) (.ref C) = some true) : PySem.W.kitOne K (.ref D) (.ref C) = some true := by
  unfold PySem.W.kitOne
  split
  · rfl
  · obtain ⟨cd, hc, -⟩ := PySem.W.any_some hd
    have h2 : (PySem.W.clsIn K C).isSome = true := by rw [hc]; rfl
    have h3 : ((PySem.W.clsIn K C).isSome && PySem.W.typeIn K (.ref C) == some (.type "type")) = true := by rw [h2, ht]; rfl
    show (if ((PySem.W.clsIn K C).isSome && PySem.W.typeIn K (.ref C) == some (.type "type")) = true then PySem.W.subIn K (.ref D) (.ref C) else none) = some true
    rw [if_pos h3]
    exact hs
theorem kit_typ {K : PySem.W.Frag} {D : Addr} {T : String} (hm : PySem.W.kitMeta T = true) (hs : PySem.W.subIn K (.ref D) (.type T) = some true) : PySem.W.kitOne K (.ref D) (.type T) = some true := by
  unfold PySem.W.kitOne
  split
  · rfl
  · unfold PySem.W.kitCls
    simp only [hm, if_true]
    exact hs
theorem call_isX {X : Cx} {a D : Addr} {oe : Obj} {d : Option Addr} {pn : List (Addr × Obj)} (T : ExcC X.K D) (hz : Zc (.ref D) d oe) (hf : ∃ vs, oe.data = .fields vs) :
    CallR (X.suite a ((a, oe) :: pn)) (.builtin "isinstance") (fun xs H Q => ∃ (c : V) (cv : Value) (b : Bool), xs = [.ref a, c] ∧ (∀ u, RelV c u → u = cv) ∧ PySem.W.kitOne X.K (.ref D) cv = some b ∧ (d = none ∨ ∃ dd gs, d = some dd ∧ H dd = some (.xd gs)) ∧ Q (.bl b) H) := by
  intro pins s σ H xs us Q I r h
  obtain ⟨c, cv, b, rfl, hcv, e, hd, q⟩ := h
  cases r with
  | cons rx rr =>
    cases rr with
    | cons rt rr =>
      cases rr
      cases rx
      cases hcv _ rt
      obtain ⟨hget, -⟩ := I.pin (a, oe) (List.mem_append_left _ List.mem_cons_self)
      obtain ⟨vs, hv⟩ := hf
      have nc : PySem.W.notCls oe := by unfold PySem.W.notCls; rw [hv] <;> trivial
      obtain ⟨od, J⟩ : ∃ od, PySem.W.InstAt s.heap a oe D od := by
        rcases hd with hd | ⟨dd, gs, hd, hx⟩
        · exact ⟨none, hget, hz.1, nc, by rw [hz.2, hd]; trivial⟩
        · have hx2 : ObjOk X.prog X.w H s.heap dd (.xd gs) := I.hok dd _ hx
          obtain ⟨mA, hns, -⟩ := hx2
          obtain ⟨od, ho, -⟩ := lookIn_ns hns
          exact ⟨some od, hget, hz.1, nc, by rw [hz.2, hd]; exact ho⟩
      obtain ⟨cd, hcd, -⟩ := PySem.W.any_some T.hd
      exact PySem.W.kia_one (PySem.W.kitx_exc (by rw [hcd]; rfl) T.hg T.hk T.hs T.ha T.hn T.ht T.hm) I.kIn J e (fun z => nomatch z) fun tk => ⟨.bl b, H, I.kept (t' := tk) fun _ _ z => z, rfl, q⟩
section
variable {X : Cx} {Cl : Nat → Addr} {i : Nat} {a D : Addr} {oe : Obj} {fs : Fl} {d : Option Addr} {pn : List (Addr × Obj)} {pos p1 p2 p3 : Pos} {x y : Str}
theorem hand_some {K : PySem.W.Frag} {β : Bt} {H : Hp} {σ : St} (h : Hand K β H σ i a fs d) : d = none ∨ ∃ dd gs, d = some dd ∧ H dd = some (.xd gs) := h.2.imp (fun z => z.2) fun ⟨dd, gs, h1, _, h3, _⟩ => ⟨dd, gs, h1, h3⟩
theorem qe_is {c : V} {cv : Value} {b : Bool} {e2 : Expr} (T : ExcC X.K D) (hz : Zc (.ref D) d oe) (hf : ∃ vs, oe.data = .fields vs) (hm : X.mg "isinstance" = none) (hv : PE (X.suite a ((a, oe) :: pn)) e2 (tC c)) (hcv : ∀ u, RelV c u → u = cv) (hk : PySem.W.kitOne X.K (.ref D) cv = some b)
    (hN : X.N[i]? = some x := by rfl) (hvis : Vis X.env.scope x := by first | exact Or.inl rfl | exact Or.inr (Or.inl rfl) | exact Or.inr (Or.inr rfl)) (hd : (x == ("__debug__" : Str)) = false := by decide) (hcd : (x == ("__classdict__" : Str)) = false := by decide) (hg : Gl X "isinstance" := by rfl)
    (he : starEach [.Name x p1, e2] (X.suite a ((a, oe) :: pn)).env = (false, eval (.Name x p1) (X.suite a ((a, oe) :: pn)).env) :: starEach [e2] (X.suite a ((a, oe) :: pn)).env := by rfl) (he2 : starEach [e2] (X.suite a ((a, oe) :: pn)).env = (false, eval e2 (X.suite a ((a, oe) :: pn)).env) :: starEach [] (X.suite a ((a, oe) :: pn)).env := by rfl)
    (hpl : (backTo pos (starEach [e2] (X.suite a ((a, oe) :: pn)).env)).any (·.1) = false := by rfl) :
    QE (X.suite a ((a, oe) :: pn)) Cl i a fs d (.Call (.Name "isinstance" p3) [.Name x p1, e2] [] pos) (mC (.bl b)) := by
  refine ⟨_, pe_callB (call_isX T hz hf) hg hm PyProof.Rows.boot_isinstance (pa_cons (hs := he) (pe_var (i := i) hN hvis hd hcd) (pa_cons (hs := he2) hv pa_nil)) (he := he) (hpl := hpl), fun β H σ s st Q hr hs hh h => ?_⟩
  exact ⟨.ref a, hh.1, c, cv, b, rfl, hcv, hk, hand_some hh, PoG.val h hr (.bl b)⟩
/-- what the top says of a class of errors whose fields are read -/
structure XFld (K : PySem.W.Frag) (D : Addr) (f : Str) : Prop where
  ga : PySem.W.findIn K (.ref D) "__getattribute__" = some (some (.builtin "BaseException.__getattribute__"))
  gg : PySem.W.findIn K (.ref D) "__getattr__" = some none
  ex : PySem.W.subIn K (.ref D) (.type "BaseException") = some true
  hd : PySem.W.hasDictIn K D = true
  no : PySem.W.findIn K (.ref D) f = some none
@[simp] def mXF (fs : Fl) (f : Str) : ME := fun _ st => match fs.lookup f with
  | some w => .ok w st
  | none => .stuck
theorem qe_fld {f : Str} (T : XFld X.K D f) (hz : Zc (.ref D) d oe) (hf : ∃ vs, oe.data = .fields vs)
    (hN : X.N[i]? = some x := by rfl) (hvis : Vis X.env.scope x := by first | exact Or.inl rfl | exact Or.inr (Or.inl rfl) | exact Or.inr (Or.inr rfl)) (hd : (x == ("__debug__" : Str)) = false := by decide) (hcd : (x == ("__classdict__" : Str)) = false := by decide)
    (hb : attributeBase (.Name x p1) f (X.suite a ((a, oe) :: pn)).env (eval (.Name x p1) (X.suite a ((a, oe) :: pn)).env) = eval (.Name x p1) (X.suite a ((a, oe) :: pn)).env := by rfl) :
    QE (X.suite a ((a, oe) :: pn)) Cl i a fs d (.Attribute (.Name x p1) f pos) (mXF fs f) := by
  refine ⟨fun σ H Q => σ[i]? = some (some (.ref a)) ∧ ∃ dd gs v, d = some dd ∧ H dd = some (.xd gs) ∧ gs.lookup f = some v ∧ Q v H, ⟨fun pins s σ H Q I h => ?_⟩, fun β H σ s st Q hr hs hh h => ?_⟩
  · obtain ⟨hσ, dd, gs, v, ed, ea, hl, q⟩ := h
    refine attr_of hb (thn ((pe_var (X := X.suite a ((a, oe) :: pn)) (i := i) (pos := p1) hN hvis hd hcd).run pins s σ H (fun u H1 => u = .ref a ∧ H1 = H) I ⟨.ref a, hσ, rfl, rfl⟩) fun u s1 hh => ?_)
    obtain ⟨w, H1, I1, rw1, ew, eH⟩ := hh
    subst ew
    subst eH
    cases (show u = Value.ref a from rw1)
    obtain ⟨ha, -⟩ := I1.pin (a, oe) (List.mem_append_left _ List.mem_cons_self)
    obtain ⟨vs, hdat⟩ := hf
    have ok : ObjOk X.prog X.w H1 s1.heap dd (.xd gs) := I1.hok dd _ ea
    obtain ⟨mA, hns, hrel⟩ := ok
    obtain ⟨od, ho, hlk⟩ := lookIn_ns hns
    obtain ⟨u2, hu, ru⟩ := RelO.some_of (v := v) (o := mA f) (by rw [← hl]; exact hrel f)
    have J : PySem.W.InstAt s1.heap a oe D (some od) := ⟨ha, hz.1, by unfold PySem.W.notCls; rw [hdat] <;> trivial, by rw [hz.2, ed]; exact ho⟩
    exact HandSPX.exc_get I1.kIn J T.ga T.gg T.ex (PySem.W.findObj_own T.hd T.no rfl (by rw [hlk, hu])) (handed_of ru) ⟨v, H1, I1.tok _, ru, q⟩
  · simp only [mXF] at h
    split at h
    · rename_i w ew
      rcases hh.2 with ⟨e1, -⟩ | ⟨dd, gs, e1, -, e3, e4⟩
      · rw [e1] at ew; cases ew
      · obtain ⟨v, hv, rv⟩ := e4.look ew
        exact ⟨hh.1, dd, gs, v, e1, e3, hv, PoG.val h hr rv⟩
    · exact h.elim
end
end Mi
/-! The mirror layer, part V: try: one call, and clauses; raise C(e, ..) where C keeps its arguments as fields. -/
namespace Mi
open PySem L2
abbrev MCl := (Nat → Option Bool) × Option Nat × (Nat → Fl → MS)
def dropO (o : SO) : Option Nat → SO
  | none => o
  | some i => match o with
    | .nx s st => .nx (s.set i none) st
    | .bk s st => .bk (s.set i none) st
    | .ct s st => .ct (s.set i none) st
    | o => o
def dropI (s : Slo) : Option Nat → Slo
  | none => s
  | some i => s.set i none
def inI (s : Slo) : Option Nat → Bool
  | none => true
  | some i => decide (i < s.length)
def mCla : List MCl → Nat → Fl → MS
  | [], c, fs => fun _ st => .exc c fs st
  | (sub, nm, ms) :: r, c, fs => fun s st => match sub c with
    | some true => if inI s nm = true then calmS (dropO (ms c fs (dropI s nm) st) nm) else .stuck
    | some false => mCla r c fs s st
    | none => .stuck
@[simp] def mTryC (body : MS) (cl : List MCl) : MS := fun s st => match body s st with
  | .exc c fs st1 => mCla cl c fs s st1
  | o => o
inductive JCla (X : Cx) (Cl : Nat → Addr) : List ExceptHandler → List MCl → Prop
  | nil : JCla X Cl [] []
  | cons0 {x : Str} {hc : Nat} {sub : Nat → Option Bool} {b₀ : Stmt} {suite : List Stmt} {np pos' : Pos} {hds : List ExceptHandler} {l : List MCl} {ms : MS} (hm : X.mg x = some (.ref (Cl hc)))
      (hsub : ∀ c b, sub c = some b → PySem.W.exmOne X.K (.ref (Cl c)) (.ref (Cl hc)) = some b)
      (hsu : ∀ (a : Addr) (oe : Obj) (pn : List (Addr × Obj)), JSs (X.suite a ((a, oe) :: pn)) Cl E0 (b₀ :: suite) ms) (r : JCla X Cl hds l) (hg : Gl X x := by rfl) (hdb : (x == ("__debug__" : Str)) = false := by decide) :
      JCla X Cl (.ExceptHandler (some (.Name x np)) none (b₀ :: suite) pos' :: hds) ((sub, none, fun _ _ => ms) :: l)
  | cons1 {x n : Str} {hc : Nat} (i : Nat) {sub : Nat → Option Bool} {b₀ : Stmt} {suite : List Stmt} {np pos' : Pos} {hds : List ExceptHandler} {l : List MCl} {ms : Nat → Fl → MS} (hm : X.mg x = some (.ref (Cl hc)))
      (hsub : ∀ c b, sub c = some b → PySem.W.exmOne X.K (.ref (Cl c)) (.ref (Cl hc)) = some b)
      (hsu : ∀ (c : Nat), sub c = some true → ∀ (fs : Fl) (a : Addr) (oe : Obj) (d : Option Addr) (pn : List (Addr × Obj)), Zc (.ref (Cl c)) d oe → (∃ vs, oe.data = .fields vs) → QS (X.suite a ((a, oe) :: pn)) Cl i a fs d (b₀ :: suite) (ms c fs)) (r : JCla X Cl hds l)
      (hi : X.N[i]? = some n := by rfl) (hl : X.env.kindOf n = some .local := by rfl) (hg : Gl X x := by rfl) (hdb : (x == ("__debug__" : Str)) = false := by decide) :
      JCla X Cl (.ExceptHandler (some (.Name x np)) (some n) (b₀ :: suite) pos' :: hds) ((sub, some i, ms) :: l)
/-! ### an error's own dict, guarded -/
theorem ext_guardX {K : PySem.W.Frag} {β : Bt} {H : Hp} {dd : Addr} {gs : List (Str × V)} (hx : H dd = some (.xd gs)) : Ext K β H (β.guard dd) H where
  tup := fun _ _ h => h
  lst := fun q vs hq n => ⟨hq, n.1, fun z => by
    rcases List.mem_cons.mp z with z | z
    · subst z; rw [hx] at hq; cases hq
    · exact n.2 z⟩
  frz := fun _ _ _ h => h
  live := fun _ _ h => .inl h
  prot := fun q hq o ho => ⟨List.mem_cons_of_mem _ hq, ho⟩
theorem hr_guardX {K : PySem.W.Frag} {Cl : Nat → Addr} {β : Bt} {H : Hp} {st : Sto} {dd : Addr} {gs : List (Str × V)} (h : HR K Cl β H st) (hx : H dd = some (.xd gs)) : HR K Cl (β.guard dd) H st where
  len := h.len
  inj := h.inj
  ob := fun i a ob hi ho => (h.ob i a ob hi ho).ext (ext_guardX hx) rfl
  dead := h.dead
  prot := fun q hq => by
    rcases List.mem_cons.mp hq with e | hq
    · subst e
      refine ⟨⟨_, hx⟩, fun i hi => ?_⟩
      obtain ⟨ob, ho⟩ : ∃ ob, st[i]? = some ob := ⟨_, List.getElem?_eq_getElem (h.len' hi)⟩
      obtain ⟨u, hu, hm⟩ := (h.ob i q ob hi ho).some
      rw [hx] at hu
      cases hu
      exact hm
    · exact h.prot q hq
theorem sr_unset {K : PySem.W.Frag} {β : Bt} {H : Hp} {s : Slo} {σ : L2.St} (h : SR K β H s σ) (i : Nat) (x : Option V) : SR K β H (s.set i none) (σ.set i x) := by
  refine ⟨by rw [List.length_set, List.length_set, h.1], fun k w hk => ?_⟩
  by_cases e : i = k
  · subst e
    by_cases hl : i < s.length
    · rw [List.getElem?_set_self hl] at hk; cases hk
    · rw [List.getElem?_eq_none (by rw [List.length_set]; omega)] at hk; cases hk
  · rw [List.getElem?_set_ne e] at hk ⊢
    exact h.2 k w hk
section
variable {X : Cx} {Cl : Nat → Addr} {E : XK}
theorem JCla.ex {hds : List ExceptHandler} {cl : List MCl} (h : JCla X Cl hds cl) : ∃ l : List Cls1, Cla X hds l ∧ ∀ (c : Nat) (fs : Fl) (d : Option Addr) (β : Bt) (H : Hp) (σ : L2.St) (s : Slo) (st : Sto) (D : Ends), HR X.K Cl β H st → SR X.K β H s σ → RX X.K β H fs d →
    PoS X.K Cl E D β H (mCla cl c fs s st) → wList X.K (fun cls d _ H => E cls d H) D l (.ref (Cl c)) d σ H := by
  induction h with
  | nil => exact ⟨[], .nil, fun c fs d β H σ s st D hr hs rx h => h β H d (Ext.refl _ _ _) hr rx⟩
  | @cons0 x hc sub b₀ suite np pos' hds l ms hm hsub hsu r hg hdb ih =>
    obtain ⟨l2, k2, q2⟩ := ih
    refine ⟨(.ref (Cl hc), none, fun _ _ _ D σ H => ∃ β s st, HR X.K Cl β H st ∧ SR X.K β H s σ ∧ PoS X.K Cl E0 D β H (ms s st)) :: l2, .cons0 ⟨hg, hdb, .inl hm⟩ (fun a oe cls d pn _ _ => ?_) k2, fun c fs d β H σ s st D hr hs rx h => ?_⟩
    · obtain ⟨t, p, q⟩ := (hsu a oe pn).ex
      exact pss_imp p fun D σ H ⟨β, s, st, hr, hs, h⟩ => q β H σ s st D hr hs h
    · simp only [mCla] at h
      cases es : sub c with
      | none => rw [es] at h; exact h.elim
      | some b =>
        rw [es] at h
        refine ⟨b, hsub c b es, fun hb a ha => ?_, fun hb => ?_⟩
        · subst hb
          refine ⟨β, s, st, hr, hs, ?_⟩
          simp only [inI, if_true, dropI, dropO] at h
          cases eo : ms s st with
          | exc c2 fs2 st2 => rw [eo] at h; exact h.elim
          | nx s2 st2 => rw [eo] at h; exact h
          | rt w st2 => rw [eo] at h; exact h
          | bk s2 st2 => rw [eo] at h; exact h
          | ct s2 st2 => rw [eo] at h; exact h
          | stuck => rw [eo] at h; exact h
        · subst hb
          exact q2 c fs d β H σ s st D hr hs rx h
  | @cons1 x n hc i sub b₀ suite np pos' hds l ms hm hsub hsu r hi hl hg hdb ih =>
    obtain ⟨l2, k2, q2⟩ := ih
    refine ⟨(.ref (Cl hc), some i, fun a cls d D σ H => ∃ c fs β s st, cls = .ref (Cl c) ∧ sub c = some true ∧ HR X.K Cl β H st ∧ SR X.K β H s σ ∧ Hand X.K β H σ i a fs d ∧ PoS X.K Cl E0 D β H (ms c fs s st)) :: l2, .cons1 ⟨hg, hdb, .inl hm⟩ hi hl (fun a oe cls d pn hz hf => ?_) k2, fun c fs d β H σ s st D hr hs rx h => ?_⟩
    · refine ⟨fun pins s0 σ H D I h => ?_⟩
      obtain ⟨c, fs, β, s, st, rfl, hc2, hr, hs, hh, hp⟩ := h
      obtain ⟨t, p, q⟩ := (hsu c hc2 fs a oe d pn hz hf).ex
      exact p.run pins s0 σ H D I (q β H σ s st D hr hs hh hp)
    · simp only [mCla] at h
      cases es : sub c with
      | none => rw [es] at h; exact h.elim
      | some b =>
        rw [es] at h
        refine ⟨b, hsub c b es, fun hb a ha => ?_, fun hb => ?_⟩
        · subst hb
          simp only [inI, dropI] at h
          by_cases hlen : i < s.length
          · simp only [hlen, decide_true, if_true] at h
            have hσ : (σ.set i (some (V.ref a)))[i]? = some (some (.ref a)) := List.getElem?_set_self (by rw [← hs.1]; exact hlen)
            obtain ⟨β2, e2, hr2, hh⟩ : ∃ β2, Ext X.K β H β2 H ∧ HR X.K Cl β2 H st ∧ Hand X.K β2 H (σ.set i (some (.ref a))) i a fs d := by
              rcases rx with rx | ⟨dd, gs, h1, h2, h3⟩
              · exact ⟨β, Ext.refl _ _ _, hr, hσ, .inl rx⟩
              · exact ⟨β.guard dd, ext_guardX h2, hr_guardX hr h2, hσ, .inr ⟨dd, gs, h1, List.mem_cons_self, h2, h3.ext (ext_guardX h2)⟩⟩
            refine ⟨c, fs, β2, s.set i none, st, rfl, es, hr2, sr_unset (hs.ext e2) i _, hh, ?_⟩
            have h' := PoS.ext e2 h
            simp only [dropO] at h'
            cases eo : ms c fs (s.set i none) st with
            | exc c2 fs2 st2 => rw [eo] at h'; exact h'.elim
            | nx s2 st2 => rw [eo] at h'; exact fun β3 H3 σ3 e3 hr3 hs3 => h' β3 H3 _ e3 hr3 (sr_unset hs3 i none)
            | bk s2 st2 => rw [eo] at h'; exact fun β3 H3 σ3 e3 hr3 hs3 => h' β3 H3 _ e3 hr3 (sr_unset hs3 i none)
            | ct s2 st2 => rw [eo] at h'; exact fun β3 H3 σ3 e3 hr3 hs3 => h' β3 H3 _ e3 hr3 (sr_unset hs3 i none)
            | rt w st2 => rw [eo] at h'; exact h'
            | stuck => rw [eo] at h'; exact h'
          · simp only [hlen, decide_false, Bool.false_eq_true, if_false] at h
            exact h.elim
        · subst hb
          exact q2 c fs d β H σ s st D hr hs rx h
theorem js_tryC {body : List Stmt} {h₀ : ExceptHandler} {hds : List ExceptHandler} {cl : List MCl} {pos : Pos} {mb : MS} (hN : X.N.Nodup) (tk : Takes X (fun cls d _ H => E cls d H))
    (hb : ∀ (W : WX) (pn : List (Addr × Obj)) (xe : Value → Shared → Prop), Takes (X.tr pn xe) W → JB (X.tr pn xe) Cl W body mb)
    (hh : JCla X Cl (h₀ :: hds) cl) (hs : X.stack = X.env :: X.outer := by rfl) (hf : X.env.frame = some X.env.locals := by rfl) :
    JS X Cl E (.Try body (h₀ :: hds) [] [] pos) (mTryC mb cl) := by
  obtain ⟨l, k, q⟩ := hh.ex (E := E)
  refine ⟨_, ps_tryC (tb := fun W => tBody X.K Cl mb W) hs hf hN tk (fun W pn xe t _ => (hb W pn xe t).ps) k, fun β H σ s st D hr hs h => ⟨β, s, st, hr, hs, ?_⟩⟩
  simp only [mTryC] at h
  cases ei : mb s st with
  | exc c fs st1 =>
    rw [ei] at h
    intro β1 H1 d e1 hr1 rx
    exact q c fs d β1 H1 σ s st1 D hr1 (hs.ext e1) rx (PoS.ext e1 h)
  | nx s1 st1 => rw [ei] at h; exact h
  | rt w st1 => rw [ei] at h; exact h
  | bk s1 st1 => rw [ei] at h; exact h
  | ct s1 st1 => rw [ei] at h; exact h
  | stuck => rw [ei] at h; exact h
end
/-- a clause that takes just the error D -/
def Only1 (sub : Nat → Option Bool) (D : Nat) : Prop := ∀ c, sub c = some true → c = D
theorem onlyN {D : Nat} : Only1 tabN D := fun c h => by cases h
theorem onlyT {D : Nat} {r : Nat → Option Bool} (h : Only1 r D) : Only1 (tabC D true r) D := fun c hc => by
  unfold tabC at hc
  split at hc
  · assumption
  · exact h c hc
theorem onlyF {D c0 : Nat} {r : Nat → Option Bool} (h : Only1 r D) : Only1 (tabC c0 false r) D := fun c hc => by
  unfold tabC at hc
  split at hc
  · cases hc
  · exact h c hc
theorem JCla.cons1D {X : Cx} {Cl : Nat → Addr} {x n : Str} {hc D : Nat} (i : Nat) {sub : Nat → Option Bool} {b₀ : Stmt} {suite : List Stmt} {np pos' : Pos} {hds : List ExceptHandler} {l : List MCl} {ms : Fl → MS} (hm : X.mg x = some (.ref (Cl hc)))
    (hsub : ∀ c b, sub c = some b → PySem.W.exmOne X.K (.ref (Cl c)) (.ref (Cl hc)) = some b) (ho : Only1 sub D)
    (hsu : ∀ (fs : Fl) (a : Addr) (oe : Obj) (d : Option Addr) (pn : List (Addr × Obj)), Zc (.ref (Cl D)) d oe → (∃ vs, oe.data = .fields vs) → QS (X.suite a ((a, oe) :: pn)) Cl i a fs d (b₀ :: suite) (ms fs)) (r : JCla X Cl hds l)
    (hi : X.N[i]? = some n := by rfl) (hl : X.env.kindOf n = some .local := by rfl) (hg : Gl X x := by rfl) (hdb : (x == ("__debug__" : Str)) = false := by decide) :
    JCla X Cl (.ExceptHandler (some (.Name x np)) (some n) (b₀ :: suite) pos' :: hds) ((sub, some i, fun _ fs => ms fs) :: l) :=
  .cons1 i hm hsub (fun c hc2 fs a oe d pn hz hf => by
    have := ho c hc2
    subst this
    exact hsu fs a oe d pn hz hf) r hi hl hg hdb
/-! ### errors that keep their arguments -/
/-- what __init__ leaves: one field; two fields -/
def spE1 (C : Addr) (f : Str) : Sp := fun vs H Q _ => ∃ a y, vs = [.ref a, y] ∧ H a = some (exo a C none) ∧ ∀ dx, H dx = none → dx ≠ a → Q .non (upd (upd H dx (exd dx [(f, y)])) a (exo a C (some dx)))
def spE2 (C : Addr) (f g : Str) : Sp := fun vs H Q _ => ∃ a y z, vs = [.ref a, y, z] ∧ H a = some (exo a C none) ∧ ∀ dx, H dx = none → dx ≠ a → Q .non (upd (upd (upd H dx (exd dx [(f, y)])) a (exo a C (some dx))) dx (exd dx [(g, z), (f, y)]))
structure XInit (K : PySem.W.Frag) (mg : Str → Option Value) (x : Str) (C fI : Addr) : Prop where
  g : mg x = some (.ref C)
  o : OexC K C
  i : PySem.W.findIn K (.ref C) "__init__" = some (some (.ref fI))
  t : PySem.W.typeIn K (.ref fI) = some (.type "function")
section
variable {P : Program} {w : World} {K : PySem.W.Frag} {mg : Str → Option Value} {base : Heap}
theorem init1_ok {qual : Str} {st : Stmt} {f C : Addr} {fd : FuncData} {N ps : List Str} {fl : Str} (F : Fun K "__init__" qual st f fd) (S : FnScope N ps (defScope st)) (hp : ps.length = 2) (hN : N.length = 2) (T : OexC K C) (hno : PySem.W.findIn K (.ref C) fl = some none)
    (hb : ∀ (cdv : Value) (A : Around) (outer : List Env) (s : Shared) (H : Hp) (E : XK), ∃ to te, PSs (cxOf CX0 P w K mg base N qual (defScope st) f cdv A outer s H E).nox (defBody st) (tOst K fl to te) ∧ (∀ σ H1 Q v, σ[0]? = some (some v) → Q v H1 → to σ H1 Q) ∧ (∀ σ H1 Q v, σ[1]? = some (some v) → Q v H1 → te σ H1 Q)) :
    FnOk P w K mg base CX0 1 f fd ps (spE1 C fl) := by
  refine F.ok S (fun vs H Q E h => ?_) (fun cdv A outer s H vs Q E hr h => ?_)
  · obtain ⟨a, y, rfl, -⟩ := h; exact hp.symm
  · obtain ⟨to, te, p, q0, q1⟩ := hb cdv A outer s H E
    obtain ⟨a, y, rfl, ha, k⟩ := h
    refine ⟨_, p, ?_⟩
    refine q1 _ _ _ y (by unfold L2.start; simp) (q0 _ _ _ (.ref a) (by unfold L2.start; simp) ⟨a, C, rfl, T, hno, .inl ⟨ha, fun dx h1 h2 => ?_⟩⟩)
    exact k dx h1 h2
end
section
variable {P : Program} {w : World} {K : PySem.W.Frag} {mg : Str → Option Value} {base : Heap}
theorem init2_ok {qual : Str} {st : Stmt} {f C : Addr} {fd : FuncData} {N ps : List Str} {fl gl : Str} (F : Fun K "__init__" qual st f fd) (S : FnScope N ps (defScope st)) (hp : ps.length = 3) (hN : N.length = 3) (T : OexC K C) (hno : PySem.W.findIn K (.ref C) fl = some none) (hno2 : PySem.W.findIn K (.ref C) gl = some none)
    (hb : ∀ (cdv : Value) (A : Around) (outer : List Env) (s : Shared) (H : Hp) (E : XK), ∃ to te te2, PSs (cxOf CX0 P w K mg base N qual (defScope st) f cdv A outer s H E).nox (defBody st) (tSeq (tOst K fl to te) (tOst K gl to te2)) ∧ (∀ σ H1 Q v, σ[0]? = some (some v) → Q v H1 → to σ H1 Q) ∧ (∀ σ H1 Q v, σ[1]? = some (some v) → Q v H1 → te σ H1 Q) ∧ (∀ σ H1 Q v, σ[2]? = some (some v) → Q v H1 → te2 σ H1 Q)) :
    FnOk P w K mg base CX0 1 f fd ps (spE2 C fl gl) := by
  refine F.ok S (fun vs H Q E h => ?_) (fun cdv A outer s H vs Q E hr h => ?_)
  · obtain ⟨a, y, z, rfl, -⟩ := h; exact hp.symm
  · obtain ⟨to, te, te2, p, q0, q1, q2⟩ := hb cdv A outer s H E
    obtain ⟨a, y, z, rfl, ha, k⟩ := h
    refine ⟨_, p, ?_⟩
    refine q1 _ _ _ y (by unfold L2.start; simp) (q0 _ _ _ (.ref a) (by unfold L2.start; simp) ⟨a, C, rfl, T, hno, .inl ⟨ha, fun dx h1 h2 => ?_⟩⟩)
    refine q2 _ _ _ z (by unfold L2.start; simp) (q0 _ _ _ (.ref a) (by unfold L2.start; simp) ⟨a, C, rfl, T, hno2, .inr ⟨dx, [(fl, y)], upd_same, ?_, by simp, k dx h1 h2⟩⟩)
    rw [upd_ne h2, upd_same]
end
/-- the promise of an __init__ that keeps its arguments under the names ns -/
def KeepsF (C : Addr) (ns : List Str) (sp : Sp) : Prop := ∀ (vs : List V) (H1 : Hp) (a : Addr) (Q : XK), vs.length = ns.length → H1 a = none → (∀ d, H1 d = none → Q (.ref C) (some d) (upd H1 d (.xd (List.zip ns vs).reverse))) →
  sp (.ref a :: (vs ++ [])) (upd H1 a (exo a C none)) (fun v H2 => v = .non ∧ ∃ (d : Addr) (fs : List (Str × V)), H2 a = some (exo a C (some d)) ∧ H2 d = some (exd d fs) ∧ H1 d = none ∧ Q (.ref C) (some d) (upd (del H2 a) d (.xd fs))) (fun _ _ _ => False)
theorem keeps1 {C : Addr} {f : Str} : KeepsF C [f] (spE1 C f) := fun vs H1 a Q hl ha k => by
  match vs, hl with
  | [y], _ =>
    refine ⟨a, y, rfl, upd_same, fun dx h1 h2 => ⟨rfl, dx, [(f, y)], upd_same, by rw [upd_ne h2, upd_same], by rwa [upd_ne h2] at h1, ?_⟩⟩
    have hd : H1 dx = none := by rwa [upd_ne h2] at h1
    have e : upd (del (upd (upd (upd H1 a (exo a C none)) dx (exd dx [(f, y)])) a (exo a C (some dx))) a) dx (.xd [(f, y)]) = upd H1 dx (.xd [(f, y)]) := by
      funext b
      by_cases hb : b = dx
      · subst hb; rw [upd_same, upd_same]
      · rw [upd_ne hb, upd_ne hb]
        by_cases hb2 : b = a
        · subst hb2; rw [del_same, ha]
        · rw [del_ne hb2, upd_ne hb2, upd_ne hb, upd_ne hb2]
    rw [e]
    exact k dx hd
theorem keeps2 {C : Addr} {f g : Str} : KeepsF C [f, g] (spE2 C f g) := fun vs H1 a Q hl ha k => by
  match vs, hl with
  | [y, z], _ =>
    refine ⟨a, y, z, rfl, upd_same, fun dx h1 h2 => ⟨rfl, dx, [(g, z), (f, y)], by rw [upd_ne h2.symm, upd_same], upd_same, by rwa [upd_ne h2] at h1, ?_⟩⟩
    have hd : H1 dx = none := by rwa [upd_ne h2] at h1
    have e : upd (del (upd (upd (upd (upd H1 a (exo a C none)) dx (exd dx [(f, y)])) a (exo a C (some dx))) dx (exd dx [(g, z), (f, y)])) a) dx (.xd [(g, z), (f, y)]) = upd H1 dx (.xd [(g, z), (f, y)]) := by
      funext b
      by_cases hb : b = dx
      · subst hb; rw [upd_same, upd_same]
      · rw [upd_ne hb, upd_ne hb]
        by_cases hb2 : b = a
        · subst hb2; rw [del_same, ha]
        · rw [del_ne hb2, upd_ne hb, upd_ne hb2, upd_ne hb, upd_ne hb2]
    rw [e]
    exact k dx hd
@[simp] def mRaiseF (c : Nat) (ns : List Str) (a : MA) : MS := fun s st => match a s st with
  | .ok ws st1 => if ws.length = ns.length then .exc c (List.zip ns ws).reverse st1 else .stuck
  | .exc c2 fs st1 => .exc c2 fs st1
  | .stuck => .stuck
theorem rf_append {K : PySem.W.Frag} {β : Bt} {H : Hp} {κ : Type} : ∀ {fs gs : List (κ × W)} {us vs : List (κ × V)}, RF K β H fs us → RF K β H gs vs → RF K β H (fs ++ gs) (us ++ vs)
  | _, _, _, _, .nil, s => s
  | _, _, _, _, .cons h r, s => .cons h (rf_append r s)
theorem rf_reverse {K : PySem.W.Frag} {β : Bt} {H : Hp} {κ : Type} : ∀ {fs : List (κ × W)} {us : List (κ × V)}, RF K β H fs us → RF K β H fs.reverse us.reverse
  | _, _, .nil => .nil
  | _, _, .cons h r => by
    rw [List.reverse_cons, List.reverse_cons]
    exact rf_append (rf_reverse r) (.cons h .nil)
theorem rf_zip {K : PySem.W.Frag} {β : Bt} {H : Hp} : ∀ (ns : List Str) {ws : List W} {vs : List V}, RVs K β H ws vs → RF K β H (List.zip ns ws) (List.zip ns vs)
  | [], _, _, _ => .nil
  | _ :: _, _, _, .nil => .nil
  | n :: ns, _, _, .cons h r => .cons h (rf_zip ns r)
theorem js_raiseF {X : Cx} {Cl : Nat → Addr} {E : XK} {c k fI : Nat} {x : Str} {ns : List Str} {fd : FuncData} {ps : List Str} {sp : Sp} {e : Expr} {es : List Expr} {mr : MA} {p pos pos' : Pos} (T : XInit X.K X.mg x (Cl c) fI) (F1 : FnOk X.prog X.w X.K X.mg X.base CX0 k fI fd ps sp) (hk : KeepsF (Cl c) ns sp) (hr : Room (k + 1) X.A) (hb : Binds X.K fd ps [])
    (tk : Takes X (fun cls d _ H => E cls d H)) (ha : JA X Cl E (e :: es) mr) (hn : ns.length ≤ 1000 := by decide) (hc : X.calm = true := by rfl) (hg : Gl X x := by rfl) (hdb : (x == ("__debug__" : Str)) = false := by decide) (he : starEach (e :: es) X.env = (false, eval e X.env) :: starEach es X.env := by rfl) (hpl : (backTo pos (starEach es X.env)).any (·.1) = false := by rfl) :
    JS X Cl E (.Raise (some (.Call (.Name x p) (e :: es) [] pos)) none pos') (mRaiseF c ns mr) := by
  obtain ⟨t, pr, q⟩ := ha.ex
  refine ⟨_, ps_raise hc tk (pmk_oex T.o T.i T.t F1 hr hb .nil pass0 hg T.g pr hdb he hpl), fun β H σ s st D hr hs h => q β H σ s st _ hr hs ?_⟩
  simp only [mRaiseF] at h
  cases ei : mr s st with
  | stuck => rw [ei] at h; exact h
  | exc c2 fs st1 => rw [ei] at h; exact h
  | ok ws st1 =>
    rw [ei] at h
    simp only at h
    intro β1 H1 vs e1 hr1 rv
    split at h
    · rename_i hl
      have hl2 : vs.length = ns.length := by rw [← rv.length]; exact hl
      refine ⟨by omega, fun a ha => ?_⟩
      refine hk vs H1 a (fun cls d H' => E cls d H') hl2 ha fun d hd => ?_
      have ex : Ext X.K β1 H1 β1 (upd H1 d (.xd (List.zip ns vs).reverse)) := Ext.new hd
      exact h β1 _ (some d) (e1.trans ex) (hr1.new hd) (.inr ⟨d, _, rfl, upd_same, rf_reverse (rf_zip ns (rv.ext ex))⟩)
    · exact h.elim
end Mi

namespace Gn
open PySem L2 Mi
/-! ### the text by places -/
def top (i : Nat) : Stmt := PySem.Challenge.pw_onestepcourt_k00_errors_and_limits.main.body.getD i (.Pass ⟨0, 0, 0, 0⟩)
abbrev s_L_cell : Stmt := top 25
abbrev s_BadSource_init : Stmt := inClass (top 2) 0
abbrev s_BadProgram_init : Stmt := inClass (top 4) 0
abbrev s_BadSchedule_init : Stmt := inClass (top 8) 0
abbrev s_L_raised : Stmt := top 26
abbrev s_L_is_0 : Stmt := top 27
abbrev s_L_is_1 : Stmt := top 28
abbrev s_L_is_2 : Stmt := top 29
abbrev s_L_is_3 : Stmt := top 30
abbrev s_L_is_4 : Stmt := top 31
abbrev s_L_is_5 : Stmt := top 32
abbrev s_L_is_6 : Stmt := top 33
abbrev s_law : Stmt := top 34
/-! ### constants, mirrors -/
def w_MOST_PARAMS : W := (W.int 4)
def w_MOST_FUNCTIONS : W := (W.int 8)
def w_MOST_TABLES : W := (W.int 8)
def w_MOST_SIZE : W := (W.int 64)
def w_MOST_NAME : W := (W.int 12)
def w_MOST_TEXT : W := (W.int 8000)
def w_MOST_LATE : W := (W.int 9)
def w_MOST_PLAYERS : W := (W.int 6)
def w_MOST_OPEN : W := (W.int 16)
def w_MOST_NESTED : W := (W.int 12)
def w_MOST_LEVEL : W := (W.int 8)
def w_MOST_TOLD : W := (W.int 16)
def w_MOST_INPUTS : W := (W.int 16)
def w_MOST_WORD : W := (W.int 65535)
def w_DEPTH : W := (W.int 8)
def b_L_cell : MS :=
  (mSeq (mIfS (mTest (mOp mLt (mVar 1) (mCB mLen (mCons (mVar 0) mNil)))) (mRet (mCB mAbs (mCons (mCB mInt (mCons (mOp mIx (mVar 0) (mVar 1)) mNil)) mNil))) mSkip)
  (mRet (mC (W.int 0))))
def m_L_cell : MF := mDef 2 0 b_L_cell
def b_L_raised : MS :=
  (mSeq (mIfS (mTest (mOp mEq (mVar 2) (mC (W.int 0)))) (mRaiseF 25 ["line", "reason"] (mCons (mVar 0) (mCons (mVar 1) mNil))) mSkip)
  (mSeq (mIfS (mTest (mOp mEq (mVar 2) (mC (W.int 1)))) (mRaiseF 27 ["reason"] (mCons (mVar 1) mNil)) mSkip)
  (mSeq (mIfS (mTest (mOp mEq (mVar 2) (mC (W.int 2)))) (mRaiseF 31 ["line"] (mCons (mVar 0) mNil)) mSkip)
  (mSeq (mIfS (mTest (mOp mEq (mVar 2) (mC (W.int 3)))) (mRaise 28) mSkip)
  (mSeq (mIfS (mTest (mOp mEq (mVar 2) (mC (W.int 4)))) (mRaise 29) mSkip)
  (mSeq (mIfS (mTest (mOp mEq (mVar 2) (mC (W.int 5)))) (mRaise 30) mSkip)
  (mRaise 26)))))))
def m_L_raised : MF := mDefX 3 0 b_L_raised
def b_L_is_0 : MS :=
  (mSeq (mTryC (mDrop (mCallX 3 m_L_raised (mCons (mVar 0) (mCons (mVar 1) (mCons (mVar 2) mNil))))) (((tabC 30 false (tabC 28 false (tabC 29 false (tabC 27 false (tabC 31 false (tabC 25 true (tabC 26 false tabN))))))), some 3, fun _ fs => (mRet (mAndV (mOp mEq (mVar 2) (mC (W.int 0))) (mAndV (mOp mEq (mXF fs "line") (mVar 0)) (mOp mEq (mXF fs "reason") (mVar 1)))))) :: (((tabC 30 true (tabC 28 true (tabC 29 true (tabC 27 true (tabC 31 true (tabC 25 true (tabC 26 true tabN))))))), none, fun _ _ => (mRet (mOp mNe (mVar 2) (mC (W.int 0))))) :: [])))
  (mRet (mC (W.bl false))))
def m_L_is_0 : MF := mDef 3 1 b_L_is_0
def b_L_is_1 : MS :=
  (mSeq (mTryC (mDrop (mCallX 3 m_L_raised (mCons (mVar 0) (mCons (mVar 1) (mCons (mVar 2) mNil))))) (((tabC 30 false (tabC 28 false (tabC 29 false (tabC 27 true (tabC 31 false (tabC 25 false (tabC 26 false tabN))))))), some 3, fun _ fs => (mRet (mAndV (mOp mEq (mVar 2) (mC (W.int 1))) (mOp mEq (mXF fs "reason") (mVar 1))))) :: (((tabC 30 true (tabC 28 true (tabC 29 true (tabC 27 true (tabC 31 true (tabC 25 true (tabC 26 true tabN))))))), none, fun _ _ => (mRet (mOp mNe (mVar 2) (mC (W.int 1))))) :: [])))
  (mRet (mC (W.bl false))))
def m_L_is_1 : MF := mDef 3 1 b_L_is_1
def b_L_is_2 : MS :=
  (mSeq (mTryC (mDrop (mCallX 3 m_L_raised (mCons (mVar 0) (mCons (mVar 1) (mCons (mVar 2) mNil))))) (((tabC 30 false (tabC 28 false (tabC 29 false (tabC 27 false (tabC 31 true (tabC 25 false (tabC 26 false tabN))))))), some 3, fun _ fs => (mRet (mAndV (mOp mEq (mVar 2) (mC (W.int 2))) (mOp mEq (mXF fs "line") (mVar 0))))) :: (((tabC 30 true (tabC 28 true (tabC 29 true (tabC 27 true (tabC 31 true (tabC 25 true (tabC 26 true tabN))))))), none, fun _ _ => (mRet (mOp mNe (mVar 2) (mC (W.int 2))))) :: [])))
  (mRet (mC (W.bl false))))
def m_L_is_2 : MF := mDef 3 1 b_L_is_2
def b_L_is_3 : MS :=
  (mSeq (mTryC (mDrop (mCallX 3 m_L_raised (mCons (mVar 0) (mCons (mVar 1) (mCons (mVar 2) mNil))))) (((tabC 30 false (tabC 28 true (tabC 29 false (tabC 27 false (tabC 31 false (tabC 25 false (tabC 26 false tabN))))))), none, fun _ _ => (mRet (mOp mEq (mVar 2) (mC (W.int 3))))) :: (((tabC 30 true (tabC 28 true (tabC 29 true (tabC 27 true (tabC 31 true (tabC 25 true (tabC 26 true tabN))))))), none, fun _ _ => (mRet (mOp mNe (mVar 2) (mC (W.int 3))))) :: [])))
  (mRet (mC (W.bl false))))
def m_L_is_3 : MF := mDef 3 0 b_L_is_3
def b_L_is_4 : MS :=
  (mSeq (mTryC (mDrop (mCallX 3 m_L_raised (mCons (mVar 0) (mCons (mVar 1) (mCons (mVar 2) mNil))))) (((tabC 30 false (tabC 28 false (tabC 29 true (tabC 27 false (tabC 31 false (tabC 25 false (tabC 26 false tabN))))))), none, fun _ _ => (mRet (mOp mEq (mVar 2) (mC (W.int 4))))) :: (((tabC 30 true (tabC 28 true (tabC 29 true (tabC 27 true (tabC 31 true (tabC 25 true (tabC 26 true tabN))))))), none, fun _ _ => (mRet (mOp mNe (mVar 2) (mC (W.int 4))))) :: [])))
  (mRet (mC (W.bl false))))
def m_L_is_4 : MF := mDef 3 0 b_L_is_4
def b_L_is_5 : MS :=
  (mSeq (mTryC (mDrop (mCallX 3 m_L_raised (mCons (mVar 0) (mCons (mVar 1) (mCons (mVar 2) mNil))))) (((tabC 30 true (tabC 28 false (tabC 29 false (tabC 27 false (tabC 31 false (tabC 25 false (tabC 26 false tabN))))))), none, fun _ _ => (mRet (mOp mEq (mVar 2) (mC (W.int 5))))) :: (((tabC 30 true (tabC 28 true (tabC 29 true (tabC 27 true (tabC 31 true (tabC 25 true (tabC 26 true tabN))))))), none, fun _ _ => (mRet (mOp mNe (mVar 2) (mC (W.int 5))))) :: [])))
  (mRet (mC (W.bl false))))
def m_L_is_5 : MF := mDef 3 0 b_L_is_5
def b_L_is_6 : MS :=
  (mSeq (mTryC (mDrop (mCallX 3 m_L_raised (mCons (mVar 0) (mCons (mVar 1) (mCons (mVar 2) mNil))))) (((tabC 30 false (tabC 28 false (tabC 29 false (tabC 27 false (tabC 31 false (tabC 25 false (tabC 26 true tabN))))))), none, fun _ _ => (mRet (mOp mEq (mVar 2) (mC (W.int 6))))) :: (((tabC 30 true (tabC 28 true (tabC 29 true (tabC 27 true (tabC 31 true (tabC 25 true (tabC 26 true tabN))))))), none, fun _ _ => (mRet (mOp mNe (mVar 2) (mC (W.int 6))))) :: [])))
  (mRet (mC (W.bl false))))
def m_L_is_6 : MF := mDef 3 0 b_L_is_6
def l0_law : MS :=
  (mSeq (mAsg (mLst (mCons (mCall 3 m_L_is_0 (mCons (mVar 1) (mCons (mVar 2) (mCons (mVar 3) mNil)))) (mCons (mCall 3 m_L_is_1 (mCons (mVar 1) (mCons (mVar 2) (mCons (mVar 3) mNil)))) (mCons (mCall 3 m_L_is_2 (mCons (mVar 1) (mCons (mVar 2) (mCons (mVar 3) mNil)))) mNil)))) (mGN 4))
  (mSeq (mAsg (mOp mAdd (mVar 4) (mLst (mCons (mCall 3 m_L_is_3 (mCons (mVar 1) (mCons (mVar 2) (mCons (mVar 3) mNil)))) (mCons (mCall 3 m_L_is_4 (mCons (mVar 1) (mCons (mVar 2) (mCons (mVar 3) mNil)))) (mCons (mCall 3 m_L_is_5 (mCons (mVar 1) (mCons (mVar 2) (mCons (mVar 3) mNil)))) mNil))))) (mGN 4))
  (mIfS (mTOr (mTest (mOp mNe (mVar 4) (mOp mMul (mLst (mCons (mC (W.bl true)) mNil)) (mC (W.int 6))))) (mTNot (mTru (mCall 3 m_L_is_6 (mCons (mVar 1) (mCons (mVar 2) (mCons (mVar 3) mNil))))))) (mRet (mC (W.bl false))) mSkip)))
def b_law : MS :=
  (mSeq (mAsg (mOp mAdd (mC (W.int 1)) (mOp mMod (mCall 2 m_L_cell (mCons (mVar 0) (mCons (mC (W.int 0)) mNil))) (mOp mPow (mC (W.int 10)) (mC (W.int 9))))) (mGN 1))
  (mSeq (mAsg (mOp mIx (mLst (mCons (mC (W.str "a name is missing")) (mCons (mC (W.str "too long")) (mCons (mC (W.str "")) mNil)))) (mOp mMod (mCall 2 m_L_cell (mCons (mVar 0) (mCons (mC (W.int 1)) mNil))) (mC (W.int 3)))) (mGN 2))
  (mSeq (mFor (mIRng1 (mCons (mC (W.int 7)) mNil)) (mGN 3) l0_law)
  (mSeq (mIfS (mTest (mOp mNe (mTup (mCons (mC w_MOST_TEXT) (mCons (mC w_MOST_NAME) (mCons (mC w_MOST_SIZE) (mCons (mC w_MOST_TABLES) (mCons (mC w_MOST_FUNCTIONS) (mCons (mC w_MOST_PARAMS) mNil))))))) (mTup (mCons (mC (W.int 8000)) (mCons (mC (W.int 12)) (mCons (mC (W.int 64)) (mCons (mC (W.int 8)) (mCons (mC (W.int 8)) (mCons (mC (W.int 4)) mNil))))))))) (mRet (mC (W.bl false))) mSkip)
  (mSeq (mIfS (mTest (mOp mNe (mTup (mCons (mC w_MOST_NESTED) (mCons (mC w_MOST_OPEN) (mCons (mC w_MOST_PLAYERS) (mCons (mC w_MOST_LATE) mNil))))) (mTup (mCons (mC (W.int 12)) (mCons (mC (W.int 16)) (mCons (mC (W.int 6)) (mCons (mC (W.int 9)) mNil))))))) (mRet (mC (W.bl false))) mSkip)
  (mRet (mOp mEq (mTup (mCons (mC w_DEPTH) (mCons (mC w_MOST_WORD) (mCons (mC w_MOST_INPUTS) (mCons (mC w_MOST_TOLD) (mCons (mC w_MOST_LEVEL) mNil)))))) (mTup (mCons (mC (W.int 8)) (mCons (mC (W.int 65535)) (mCons (mC (W.int 16)) (mCons (mC (W.int 16)) (mCons (mC (W.int 8)) mNil)))))))))))))
def m_law : MF := mDef 1 4 b_law
/-! ### what the top has made -/
structure Tx (K : PySem.W.Frag) (mg : Str → Option Value) (Cl : Nat → Addr) where
  a_L_cell : Addr
  d_L_cell : FuncData
  F_L_cell : Fun K "_law_cell" "_law_cell" s_L_cell a_L_cell d_L_cell
  g_L_cell : mg "_law_cell" = some (.ref a_L_cell)
  a_BadSource_init : Addr
  d_BadSource_init : FuncData
  F_BadSource_init : Fun K "__init__" "BadSource.__init__" s_BadSource_init a_BadSource_init d_BadSource_init
  i_BadSource : XInit K mg "BadSource" (Cl 25) a_BadSource_init
  a_BadProgram_init : Addr
  d_BadProgram_init : FuncData
  F_BadProgram_init : Fun K "__init__" "BadProgram.__init__" s_BadProgram_init a_BadProgram_init d_BadProgram_init
  i_BadProgram : XInit K mg "BadProgram" (Cl 27) a_BadProgram_init
  a_BadSchedule_init : Addr
  d_BadSchedule_init : FuncData
  F_BadSchedule_init : Fun K "__init__" "BadSchedule.__init__" s_BadSchedule_init a_BadSchedule_init d_BadSchedule_init
  i_BadSchedule : XInit K mg "BadSchedule" (Cl 31) a_BadSchedule_init
  a_L_raised : Addr
  d_L_raised : FuncData
  F_L_raised : Fun K "_law_raised" "_law_raised" s_L_raised a_L_raised d_L_raised
  g_L_raised : mg "_law_raised" = some (.ref a_L_raised)
  a_L_is_0 : Addr
  d_L_is_0 : FuncData
  F_L_is_0 : Fun K "_law_is_0" "_law_is_0" s_L_is_0 a_L_is_0 d_L_is_0
  g_L_is_0 : mg "_law_is_0" = some (.ref a_L_is_0)
  a_L_is_1 : Addr
  d_L_is_1 : FuncData
  F_L_is_1 : Fun K "_law_is_1" "_law_is_1" s_L_is_1 a_L_is_1 d_L_is_1
  g_L_is_1 : mg "_law_is_1" = some (.ref a_L_is_1)
  a_L_is_2 : Addr
  d_L_is_2 : FuncData
  F_L_is_2 : Fun K "_law_is_2" "_law_is_2" s_L_is_2 a_L_is_2 d_L_is_2
  g_L_is_2 : mg "_law_is_2" = some (.ref a_L_is_2)
  a_L_is_3 : Addr
  d_L_is_3 : FuncData
  F_L_is_3 : Fun K "_law_is_3" "_law_is_3" s_L_is_3 a_L_is_3 d_L_is_3
  g_L_is_3 : mg "_law_is_3" = some (.ref a_L_is_3)
  a_L_is_4 : Addr
  d_L_is_4 : FuncData
  F_L_is_4 : Fun K "_law_is_4" "_law_is_4" s_L_is_4 a_L_is_4 d_L_is_4
  g_L_is_4 : mg "_law_is_4" = some (.ref a_L_is_4)
  a_L_is_5 : Addr
  d_L_is_5 : FuncData
  F_L_is_5 : Fun K "_law_is_5" "_law_is_5" s_L_is_5 a_L_is_5 d_L_is_5
  g_L_is_5 : mg "_law_is_5" = some (.ref a_L_is_5)
  a_L_is_6 : Addr
  d_L_is_6 : FuncData
  F_L_is_6 : Fun K "_law_is_6" "_law_is_6" s_L_is_6 a_L_is_6 d_L_is_6
  g_L_is_6 : mg "_law_is_6" = some (.ref a_L_is_6)
  a_law : Addr
  d_law : FuncData
  F_law : Fun K "law" "law" s_law a_law d_law
  g_law : mg "law" = some (.ref a_law)
  nf_BadSource_line : PySem.W.findIn K (.ref (Cl 25)) "line" = some none
  nf_BadSource_reason : PySem.W.findIn K (.ref (Cl 25)) "reason" = some none
  nf_BadSchedule_line : PySem.W.findIn K (.ref (Cl 31)) "line" = some none
  nf_BadProgram_reason : PySem.W.findIn K (.ref (Cl 27)) "reason" = some none
  xf_BadProgram_reason : XFld K (Cl 27) "reason"
  xf_BadSchedule_line : XFld K (Cl 31) "line"
  xf_BadSource_line : XFld K (Cl 25) "line"
  xf_BadSource_reason : XFld K (Cl 25) "reason"
  g_CourtError : mg "CourtError" = some (.ref (Cl 24))
  g_BadSource : mg "BadSource" = some (.ref (Cl 25))
  g_BadTree : mg "BadTree" = some (.ref (Cl 26))
  x_BadTree : XCls K mg "BadTree" (Cl 26)
  g_BadProgram : mg "BadProgram" = some (.ref (Cl 27))
  g_BadFit : mg "BadFit" = some (.ref (Cl 28))
  x_BadFit : XCls K mg "BadFit" (Cl 28)
  g_BadOpening : mg "BadOpening" = some (.ref (Cl 29))
  x_BadOpening : XCls K mg "BadOpening" (Cl 29)
  g_BadCall : mg "BadCall" = some (.ref (Cl 30))
  x_BadCall : XCls K mg "BadCall" (Cl 30)
  g_BadSchedule : mg "BadSchedule" = some (.ref (Cl 31))
  e_BadCall_BadCall : PySem.W.exmOne K (.ref (Cl 30)) (.ref (Cl 30)) = some true
  e_BadCall_BadFit : PySem.W.exmOne K (.ref (Cl 30)) (.ref (Cl 28)) = some false
  e_BadCall_BadOpening : PySem.W.exmOne K (.ref (Cl 30)) (.ref (Cl 29)) = some false
  e_BadCall_BadProgram : PySem.W.exmOne K (.ref (Cl 30)) (.ref (Cl 27)) = some false
  e_BadCall_BadSchedule : PySem.W.exmOne K (.ref (Cl 30)) (.ref (Cl 31)) = some false
  e_BadCall_BadSource : PySem.W.exmOne K (.ref (Cl 30)) (.ref (Cl 25)) = some false
  e_BadCall_BadTree : PySem.W.exmOne K (.ref (Cl 30)) (.ref (Cl 26)) = some false
  e_BadCall_CourtError : PySem.W.exmOne K (.ref (Cl 30)) (.ref (Cl 24)) = some true
  e_BadFit_BadCall : PySem.W.exmOne K (.ref (Cl 28)) (.ref (Cl 30)) = some false
  e_BadFit_BadFit : PySem.W.exmOne K (.ref (Cl 28)) (.ref (Cl 28)) = some true
  e_BadFit_BadOpening : PySem.W.exmOne K (.ref (Cl 28)) (.ref (Cl 29)) = some false
  e_BadFit_BadProgram : PySem.W.exmOne K (.ref (Cl 28)) (.ref (Cl 27)) = some false
  e_BadFit_BadSchedule : PySem.W.exmOne K (.ref (Cl 28)) (.ref (Cl 31)) = some false
  e_BadFit_BadSource : PySem.W.exmOne K (.ref (Cl 28)) (.ref (Cl 25)) = some false
  e_BadFit_BadTree : PySem.W.exmOne K (.ref (Cl 28)) (.ref (Cl 26)) = some false
  e_BadFit_CourtError : PySem.W.exmOne K (.ref (Cl 28)) (.ref (Cl 24)) = some true
  e_BadOpening_BadCall : PySem.W.exmOne K (.ref (Cl 29)) (.ref (Cl 30)) = some false
  e_BadOpening_BadFit : PySem.W.exmOne K (.ref (Cl 29)) (.ref (Cl 28)) = some false
  e_BadOpening_BadOpening : PySem.W.exmOne K (.ref (Cl 29)) (.ref (Cl 29)) = some true
  e_BadOpening_BadProgram : PySem.W.exmOne K (.ref (Cl 29)) (.ref (Cl 27)) = some false
  e_BadOpening_BadSchedule : PySem.W.exmOne K (.ref (Cl 29)) (.ref (Cl 31)) = some false
  e_BadOpening_BadSource : PySem.W.exmOne K (.ref (Cl 29)) (.ref (Cl 25)) = some false
  e_BadOpening_BadTree : PySem.W.exmOne K (.ref (Cl 29)) (.ref (Cl 26)) = some false
  e_BadOpening_CourtError : PySem.W.exmOne K (.ref (Cl 29)) (.ref (Cl 24)) = some true
  e_BadProgram_BadCall : PySem.W.exmOne K (.ref (Cl 27)) (.ref (Cl 30)) = some false
  e_BadProgram_BadFit : PySem.W.exmOne K (.ref (Cl 27)) (.ref (Cl 28)) = some false
  e_BadProgram_BadOpening : PySem.W.exmOne K (.ref (Cl 27)) (.ref (Cl 29)) = some false
  e_BadProgram_BadProgram : PySem.W.exmOne K (.ref (Cl 27)) (.ref (Cl 27)) = some true
  e_BadProgram_BadSchedule : PySem.W.exmOne K (.ref (Cl 27)) (.ref (Cl 31)) = some false
  e_BadProgram_BadSource : PySem.W.exmOne K (.ref (Cl 27)) (.ref (Cl 25)) = some false
  e_BadProgram_BadTree : PySem.W.exmOne K (.ref (Cl 27)) (.ref (Cl 26)) = some false
  e_BadProgram_CourtError : PySem.W.exmOne K (.ref (Cl 27)) (.ref (Cl 24)) = some true
  e_BadSchedule_BadCall : PySem.W.exmOne K (.ref (Cl 31)) (.ref (Cl 30)) = some false
  e_BadSchedule_BadFit : PySem.W.exmOne K (.ref (Cl 31)) (.ref (Cl 28)) = some false
  e_BadSchedule_BadOpening : PySem.W.exmOne K (.ref (Cl 31)) (.ref (Cl 29)) = some false
  e_BadSchedule_BadProgram : PySem.W.exmOne K (.ref (Cl 31)) (.ref (Cl 27)) = some false
  e_BadSchedule_BadSchedule : PySem.W.exmOne K (.ref (Cl 31)) (.ref (Cl 31)) = some true
  e_BadSchedule_BadSource : PySem.W.exmOne K (.ref (Cl 31)) (.ref (Cl 25)) = some false
  e_BadSchedule_BadTree : PySem.W.exmOne K (.ref (Cl 31)) (.ref (Cl 26)) = some false
  e_BadSchedule_CourtError : PySem.W.exmOne K (.ref (Cl 31)) (.ref (Cl 24)) = some true
  e_BadSource_BadCall : PySem.W.exmOne K (.ref (Cl 25)) (.ref (Cl 30)) = some false
  e_BadSource_BadFit : PySem.W.exmOne K (.ref (Cl 25)) (.ref (Cl 28)) = some false
  e_BadSource_BadOpening : PySem.W.exmOne K (.ref (Cl 25)) (.ref (Cl 29)) = some false
  e_BadSource_BadProgram : PySem.W.exmOne K (.ref (Cl 25)) (.ref (Cl 27)) = some false
  e_BadSource_BadSchedule : PySem.W.exmOne K (.ref (Cl 25)) (.ref (Cl 31)) = some false
  e_BadSource_BadSource : PySem.W.exmOne K (.ref (Cl 25)) (.ref (Cl 25)) = some true
  e_BadSource_BadTree : PySem.W.exmOne K (.ref (Cl 25)) (.ref (Cl 26)) = some false
  e_BadSource_CourtError : PySem.W.exmOne K (.ref (Cl 25)) (.ref (Cl 24)) = some true
  e_BadTree_BadCall : PySem.W.exmOne K (.ref (Cl 26)) (.ref (Cl 30)) = some false
  e_BadTree_BadFit : PySem.W.exmOne K (.ref (Cl 26)) (.ref (Cl 28)) = some false
  e_BadTree_BadOpening : PySem.W.exmOne K (.ref (Cl 26)) (.ref (Cl 29)) = some false
  e_BadTree_BadProgram : PySem.W.exmOne K (.ref (Cl 26)) (.ref (Cl 27)) = some false
  e_BadTree_BadSchedule : PySem.W.exmOne K (.ref (Cl 26)) (.ref (Cl 31)) = some false
  e_BadTree_BadSource : PySem.W.exmOne K (.ref (Cl 26)) (.ref (Cl 25)) = some false
  e_BadTree_BadTree : PySem.W.exmOne K (.ref (Cl 26)) (.ref (Cl 26)) = some true
  e_BadTree_CourtError : PySem.W.exmOne K (.ref (Cl 26)) (.ref (Cl 24)) = some true
  c_MOST_PARAMS : GC K mg "MOST_PARAMS" w_MOST_PARAMS
  c_MOST_FUNCTIONS : GC K mg "MOST_FUNCTIONS" w_MOST_FUNCTIONS
  c_MOST_TABLES : GC K mg "MOST_TABLES" w_MOST_TABLES
  c_MOST_SIZE : GC K mg "MOST_SIZE" w_MOST_SIZE
  c_MOST_NAME : GC K mg "MOST_NAME" w_MOST_NAME
  c_MOST_TEXT : GC K mg "MOST_TEXT" w_MOST_TEXT
  c_MOST_LATE : GC K mg "MOST_LATE" w_MOST_LATE
  c_MOST_PLAYERS : GC K mg "MOST_PLAYERS" w_MOST_PLAYERS
  c_MOST_OPEN : GC K mg "MOST_OPEN" w_MOST_OPEN
  c_MOST_NESTED : GC K mg "MOST_NESTED" w_MOST_NESTED
  c_MOST_LEVEL : GC K mg "MOST_LEVEL" w_MOST_LEVEL
  c_MOST_TOLD : GC K mg "MOST_TOLD" w_MOST_TOLD
  c_MOST_INPUTS : GC K mg "MOST_INPUTS" w_MOST_INPUTS
  c_MOST_WORD : GC K mg "MOST_WORD" w_MOST_WORD
  c_DEPTH : GC K mg "DEPTH" w_DEPTH
  b_abs : mg "abs" = none
  b_int : mg "int" = none
  b_len : mg "len" = none
  b_range : mg "range" = none
section
variable {P : Program} {w : World} {K : PySem.W.Frag} {Cl : Nat → Addr} {mg : Str → Option Value} {base : Heap}
theorem sc_L_cell : FnScope ["_law_script", "_law_k"] ["_law_script", "_law_k"] (defScope s_L_cell) := ⟨rfl, rfl, rfl, by decide +kernel, rfl, by decide +kernel, by decide +kernel⟩
theorem bi_L_cell (T : Tx K mg Cl) : Binds K T.d_L_cell ["_law_script", "_law_k"] [] := T.F_L_cell.binds fun _ _ _ _ _ _ us hl => match us, hl with | [_, _], _ => rfl
theorem ok_L_cell (T : Tx K mg Cl) : FnOk P w K mg base CX0 1 T.a_L_cell T.d_L_cell ["_law_script", "_law_k"] (spM K Cl 2 m_L_cell) := by
  refine fn_ok T.F_L_cell sc_L_cell rfl rfl fun cdv A outer s H E hr => ?_
  have hN := (sc_L_cell).nd
  exact (jss_cons (js_if (jt_cmp o_lt (je_var 1) (je_callB c_len T.b_len PySem.boot_len (ja_cons (je_var 0) ja_nil)) (nomark _)) (jss_one (js_ret (je_callB c_abs T.b_abs PyProof.Rows.boot_abs (ja_cons (je_callTy c_int T.b_int PyProof.Rows.boot_int (ja_cons (je_ix (je_var 0) (je_var 1)) ja_nil)) ja_nil)))) jss_nil)
    (jss_one (js_ret je_int)))
theorem sc_BadSource_init : FnScope ["self", "line", "reason"] ["self", "line", "reason"] (defScope s_BadSource_init) := ⟨rfl, rfl, rfl, by decide +kernel, rfl, by decide +kernel, by decide +kernel⟩
theorem bi_BadSource_init (T : Tx K mg Cl) : Binds K T.d_BadSource_init ["self", "line", "reason"] [] := T.F_BadSource_init.binds fun _ _ _ _ _ _ us hl => match us, hl with | [_, _, _], _ => rfl
theorem ok_BadSource_init (T : Tx K mg Cl) : FnOk P w K mg base CX0 1 T.a_BadSource_init T.d_BadSource_init ["self", "line", "reason"] (spE2 (Cl 25) "line" "reason") :=
  init2_ok T.F_BadSource_init sc_BadSource_init rfl rfl T.i_BadSource.o T.nf_BadSource_line T.nf_BadSource_reason fun cdv A outer s H E => ⟨_, _, _, pss_cons (ps_ost (pe_var (i := 0) rfl (Or.inl rfl) (by decide) (by decide)) (pe_var (i := 1) rfl (Or.inl rfl) (by decide) (by decide))) (pss_one (ps_ost (pe_var (i := 0) rfl (Or.inl rfl) (by decide) (by decide)) (pe_var (i := 2) rfl (Or.inl rfl) (by decide) (by decide)))), fun _ _ _ v h q => ⟨v, h, q⟩, fun _ _ _ v h q => ⟨v, h, q⟩, fun _ _ _ v h q => ⟨v, h, q⟩⟩
theorem sc_BadProgram_init : FnScope ["self", "reason"] ["self", "reason"] (defScope s_BadProgram_init) := ⟨rfl, rfl, rfl, by decide +kernel, rfl, by decide +kernel, by decide +kernel⟩
theorem bi_BadProgram_init (T : Tx K mg Cl) : Binds K T.d_BadProgram_init ["self", "reason"] [] := T.F_BadProgram_init.binds fun _ _ _ _ _ _ us hl => match us, hl with | [_, _], _ => rfl
theorem ok_BadProgram_init (T : Tx K mg Cl) : FnOk P w K mg base CX0 1 T.a_BadProgram_init T.d_BadProgram_init ["self", "reason"] (spE1 (Cl 27) "reason") :=
  init1_ok T.F_BadProgram_init sc_BadProgram_init rfl rfl T.i_BadProgram.o T.nf_BadProgram_reason fun cdv A outer s H E => ⟨_, _, pss_one (ps_ost (pe_var (i := 0) rfl (Or.inl rfl) (by decide) (by decide)) (pe_var (i := 1) rfl (Or.inl rfl) (by decide) (by decide))), fun _ _ _ v h q => ⟨v, h, q⟩, fun _ _ _ v h q => ⟨v, h, q⟩⟩
theorem sc_BadSchedule_init : FnScope ["self", "line"] ["self", "line"] (defScope s_BadSchedule_init) := ⟨rfl, rfl, rfl, by decide +kernel, rfl, by decide +kernel, by decide +kernel⟩
theorem bi_BadSchedule_init (T : Tx K mg Cl) : Binds K T.d_BadSchedule_init ["self", "line"] [] := T.F_BadSchedule_init.binds fun _ _ _ _ _ _ us hl => match us, hl with | [_, _], _ => rfl
theorem ok_BadSchedule_init (T : Tx K mg Cl) : FnOk P w K mg base CX0 1 T.a_BadSchedule_init T.d_BadSchedule_init ["self", "line"] (spE1 (Cl 31) "line") :=
  init1_ok T.F_BadSchedule_init sc_BadSchedule_init rfl rfl T.i_BadSchedule.o T.nf_BadSchedule_line fun cdv A outer s H E => ⟨_, _, pss_one (ps_ost (pe_var (i := 0) rfl (Or.inl rfl) (by decide) (by decide)) (pe_var (i := 1) rfl (Or.inl rfl) (by decide) (by decide))), fun _ _ _ v h q => ⟨v, h, q⟩, fun _ _ _ v h q => ⟨v, h, q⟩⟩
theorem sc_L_raised : FnScope ["_law_line", "_law_reason", "_law_which"] ["_law_line", "_law_reason", "_law_which"] (defScope s_L_raised) := ⟨rfl, rfl, rfl, by decide +kernel, rfl, by decide +kernel, by decide +kernel⟩
theorem bi_L_raised (T : Tx K mg Cl) : Binds K T.d_L_raised ["_law_line", "_law_reason", "_law_which"] [] := T.F_L_raised.binds fun _ _ _ _ _ _ us hl => match us, hl with | [_, _, _], _ => rfl
theorem ok_L_raised (T : Tx K mg Cl) : FnOk P w K mg base (L2.CX P w) 3 T.a_L_raised T.d_L_raised ["_law_line", "_law_reason", "_law_which"] (spM K Cl 3 m_L_raised) := by
  refine fn_okX T.F_L_raised sc_L_raised rfl rfl fun cdv A outer s H E hr => ?_
  have hN := (sc_L_raised).nd
  exact (jss_cons (js_if (jt_cmp (o_eq (room65 hr)) (je_var 2) je_int (nomark _)) (jss_one (js_raiseF (c := 25) (ns := ["line", "reason"]) T.i_BadSource (ok_BadSource_init T) keeps2 (hr.mono (by decide)) (bi_BadSource_init T) (takes_of rfl rfl rfl rfl) (ja_cons (je_var 0) (ja_cons (je_var 1) ja_nil)))) jss_nil)
    (jss_cons (js_if (jt_cmp (o_eq (room65 hr)) (je_var 2) je_int (nomark _)) (jss_one (js_raiseF (c := 27) (ns := ["reason"]) T.i_BadProgram (ok_BadProgram_init T) keeps1 (hr.mono (by decide)) (bi_BadProgram_init T) (takes_of rfl rfl rfl rfl) (ja_cons (je_var 1) ja_nil))) jss_nil)
    (jss_cons (js_if (jt_cmp (o_eq (room65 hr)) (je_var 2) je_int (nomark _)) (jss_one (js_raiseF (c := 31) (ns := ["line"]) T.i_BadSchedule (ok_BadSchedule_init T) keeps1 (hr.mono (by decide)) (bi_BadSchedule_init T) (takes_of rfl rfl rfl rfl) (ja_cons (je_var 0) ja_nil))) jss_nil)
    (jss_cons (js_if (jt_cmp (o_eq (room65 hr)) (je_var 2) je_int (nomark _)) (jss_one (js_raise0 T.x_BadFit (takes_of rfl rfl rfl rfl))) jss_nil)
    (jss_cons (js_if (jt_cmp (o_eq (room65 hr)) (je_var 2) je_int (nomark _)) (jss_one (js_raise0 T.x_BadOpening (takes_of rfl rfl rfl rfl))) jss_nil)
    (jss_cons (js_if (jt_cmp (o_eq (room65 hr)) (je_var 2) je_int (nomark _)) (jss_one (js_raise0 T.x_BadCall (takes_of rfl rfl rfl rfl))) jss_nil)
    (jss_one (js_raise0 T.x_BadTree (takes_of rfl rfl rfl rfl)))))))))
theorem sc_L_is_0 : FnScope ["_law_line", "_law_reason", "_law_which", "error"] ["_law_line", "_law_reason", "_law_which"] (defScope s_L_is_0) := ⟨rfl, rfl, rfl, by decide +kernel, rfl, by decide +kernel, by decide +kernel⟩
theorem bi_L_is_0 (T : Tx K mg Cl) : Binds K T.d_L_is_0 ["_law_line", "_law_reason", "_law_which"] [] := T.F_L_is_0.binds fun _ _ _ _ _ _ us hl => match us, hl with | [_, _, _], _ => rfl
theorem ok_L_is_0 (T : Tx K mg Cl) : FnOk P w K mg base CX0 4 T.a_L_is_0 T.d_L_is_0 ["_law_line", "_law_reason", "_law_which"] (spM K Cl 3 m_L_is_0) := by
  refine fn_ok T.F_L_is_0 sc_L_is_0 rfl rfl fun cdv A outer s H E hr => ?_
  have hN := (sc_L_is_0).nd
  exact (jss_cons (js_tryC hN takes0 (fun _ _ _ tk => (jb_expr (jc_call (ok_L_raised T) tk (hr.mono (by decide)) T.g_L_raised T.F_L_raised.kp (bi_L_raised T) (ja_cons (je_var 0) (ja_cons (je_var 1) (ja_cons (je_var 2) ja_nil)))))) (JCla.cons1D 3 (D := 25) (hc := 25) T.g_BadSource (tabC_ok T.e_BadCall_BadSource (tabC_ok T.e_BadFit_BadSource (tabC_ok T.e_BadOpening_BadSource (tabC_ok T.e_BadProgram_BadSource (tabC_ok T.e_BadSchedule_BadSource (tabC_ok T.e_BadSource_BadSource (tabC_ok T.e_BadTree_BadSource tabN_ok))))))) (onlyF (onlyF (onlyF (onlyF (onlyF (onlyT (onlyF onlyN))))))) (ms := fun fs => (mRet (mAndV (mOp mEq (mVar 2) (mC (W.int 0))) (mAndV (mOp mEq (mXF fs "line") (mVar 0)) (mOp mEq (mXF fs "reason") (mVar 1)))))) (fun fs a oe d pn hz hf => (qs_ret (qe_and (qe_of (je_cmp (o_eq (have z := room65 hr; z)) (je_var 2) je_int (nomark _))) (qe_and (qe_cmp (o_eq (have z := room65 hr; z)) (qe_fld (i := 3) T.xf_BadSource_line hz hf) (qe_of (je_var 0)) (nomark _)) (qe_one (qe_cmp (o_eq (have z := room65 hr; z)) (qe_fld (i := 3) T.xf_BadSource_reason hz hf) (qe_of (je_var 1)) (nomark _))))))) (.cons0 (hc := 24) T.g_CourtError (tabC_ok T.e_BadCall_CourtError (tabC_ok T.e_BadFit_CourtError (tabC_ok T.e_BadOpening_CourtError (tabC_ok T.e_BadProgram_CourtError (tabC_ok T.e_BadSchedule_CourtError (tabC_ok T.e_BadSource_CourtError (tabC_ok T.e_BadTree_CourtError tabN_ok))))))) (fun _ _ _ => (jss_one (js_ret (je_cmp (o_ne (have z := room65 hr; z)) (je_var 2) je_int (nomark _))))) .nil)))
    (jss_one (js_ret je_bl)))
theorem sc_L_is_1 : FnScope ["_law_line", "_law_reason", "_law_which", "error"] ["_law_line", "_law_reason", "_law_which"] (defScope s_L_is_1) := ⟨rfl, rfl, rfl, by decide +kernel, rfl, by decide +kernel, by decide +kernel⟩
theorem bi_L_is_1 (T : Tx K mg Cl) : Binds K T.d_L_is_1 ["_law_line", "_law_reason", "_law_which"] [] := T.F_L_is_1.binds fun _ _ _ _ _ _ us hl => match us, hl with | [_, _, _], _ => rfl
theorem ok_L_is_1 (T : Tx K mg Cl) : FnOk P w K mg base CX0 4 T.a_L_is_1 T.d_L_is_1 ["_law_line", "_law_reason", "_law_which"] (spM K Cl 3 m_L_is_1) := by
  refine fn_ok T.F_L_is_1 sc_L_is_1 rfl rfl fun cdv A outer s H E hr => ?_
  have hN := (sc_L_is_1).nd
  exact (jss_cons (js_tryC hN takes0 (fun _ _ _ tk => (jb_expr (jc_call (ok_L_raised T) tk (hr.mono (by decide)) T.g_L_raised T.F_L_raised.kp (bi_L_raised T) (ja_cons (je_var 0) (ja_cons (je_var 1) (ja_cons (je_var 2) ja_nil)))))) (JCla.cons1D 3 (D := 27) (hc := 27) T.g_BadProgram (tabC_ok T.e_BadCall_BadProgram (tabC_ok T.e_BadFit_BadProgram (tabC_ok T.e_BadOpening_BadProgram (tabC_ok T.e_BadProgram_BadProgram (tabC_ok T.e_BadSchedule_BadProgram (tabC_ok T.e_BadSource_BadProgram (tabC_ok T.e_BadTree_BadProgram tabN_ok))))))) (onlyF (onlyF (onlyF (onlyT (onlyF (onlyF (onlyF onlyN))))))) (ms := fun fs => (mRet (mAndV (mOp mEq (mVar 2) (mC (W.int 1))) (mOp mEq (mXF fs "reason") (mVar 1))))) (fun fs a oe d pn hz hf => (qs_ret (qe_and (qe_of (je_cmp (o_eq (have z := room65 hr; z)) (je_var 2) je_int (nomark _))) (qe_one (qe_cmp (o_eq (have z := room65 hr; z)) (qe_fld (i := 3) T.xf_BadProgram_reason hz hf) (qe_of (je_var 1)) (nomark _)))))) (.cons0 (hc := 24) T.g_CourtError (tabC_ok T.e_BadCall_CourtError (tabC_ok T.e_BadFit_CourtError (tabC_ok T.e_BadOpening_CourtError (tabC_ok T.e_BadProgram_CourtError (tabC_ok T.e_BadSchedule_CourtError (tabC_ok T.e_BadSource_CourtError (tabC_ok T.e_BadTree_CourtError tabN_ok))))))) (fun _ _ _ => (jss_one (js_ret (je_cmp (o_ne (have z := room65 hr; z)) (je_var 2) je_int (nomark _))))) .nil)))
    (jss_one (js_ret je_bl)))
theorem sc_L_is_2 : FnScope ["_law_line", "_law_reason", "_law_which", "error"] ["_law_line", "_law_reason", "_law_which"] (defScope s_L_is_2) := ⟨rfl, rfl, rfl, by decide +kernel, rfl, by decide +kernel, by decide +kernel⟩
theorem bi_L_is_2 (T : Tx K mg Cl) : Binds K T.d_L_is_2 ["_law_line", "_law_reason", "_law_which"] [] := T.F_L_is_2.binds fun _ _ _ _ _ _ us hl => match us, hl with | [_, _, _], _ => rfl
theorem ok_L_is_2 (T : Tx K mg Cl) : FnOk P w K mg base CX0 4 T.a_L_is_2 T.d_L_is_2 ["_law_line", "_law_reason", "_law_which"] (spM K Cl 3 m_L_is_2) := by
  refine fn_ok T.F_L_is_2 sc_L_is_2 rfl rfl fun cdv A outer s H E hr => ?_
  have hN := (sc_L_is_2).nd
  exact (jss_cons (js_tryC hN takes0 (fun _ _ _ tk => (jb_expr (jc_call (ok_L_raised T) tk (hr.mono (by decide)) T.g_L_raised T.F_L_raised.kp (bi_L_raised T) (ja_cons (je_var 0) (ja_cons (je_var 1) (ja_cons (je_var 2) ja_nil)))))) (JCla.cons1D 3 (D := 31) (hc := 31) T.g_BadSchedule (tabC_ok T.e_BadCall_BadSchedule (tabC_ok T.e_BadFit_BadSchedule (tabC_ok T.e_BadOpening_BadSchedule (tabC_ok T.e_BadProgram_BadSchedule (tabC_ok T.e_BadSchedule_BadSchedule (tabC_ok T.e_BadSource_BadSchedule (tabC_ok T.e_BadTree_BadSchedule tabN_ok))))))) (onlyF (onlyF (onlyF (onlyF (onlyT (onlyF (onlyF onlyN))))))) (ms := fun fs => (mRet (mAndV (mOp mEq (mVar 2) (mC (W.int 2))) (mOp mEq (mXF fs "line") (mVar 0))))) (fun fs a oe d pn hz hf => (qs_ret (qe_and (qe_of (je_cmp (o_eq (have z := room65 hr; z)) (je_var 2) je_int (nomark _))) (qe_one (qe_cmp (o_eq (have z := room65 hr; z)) (qe_fld (i := 3) T.xf_BadSchedule_line hz hf) (qe_of (je_var 0)) (nomark _)))))) (.cons0 (hc := 24) T.g_CourtError (tabC_ok T.e_BadCall_CourtError (tabC_ok T.e_BadFit_CourtError (tabC_ok T.e_BadOpening_CourtError (tabC_ok T.e_BadProgram_CourtError (tabC_ok T.e_BadSchedule_CourtError (tabC_ok T.e_BadSource_CourtError (tabC_ok T.e_BadTree_CourtError tabN_ok))))))) (fun _ _ _ => (jss_one (js_ret (je_cmp (o_ne (have z := room65 hr; z)) (je_var 2) je_int (nomark _))))) .nil)))
    (jss_one (js_ret je_bl)))
theorem sc_L_is_3 : FnScope ["_law_line", "_law_reason", "_law_which"] ["_law_line", "_law_reason", "_law_which"] (defScope s_L_is_3) := ⟨rfl, rfl, rfl, by decide +kernel, rfl, by decide +kernel, by decide +kernel⟩
theorem bi_L_is_3 (T : Tx K mg Cl) : Binds K T.d_L_is_3 ["_law_line", "_law_reason", "_law_which"] [] := T.F_L_is_3.binds fun _ _ _ _ _ _ us hl => match us, hl with | [_, _, _], _ => rfl
theorem ok_L_is_3 (T : Tx K mg Cl) : FnOk P w K mg base CX0 4 T.a_L_is_3 T.d_L_is_3 ["_law_line", "_law_reason", "_law_which"] (spM K Cl 3 m_L_is_3) := by
  refine fn_ok T.F_L_is_3 sc_L_is_3 rfl rfl fun cdv A outer s H E hr => ?_
  have hN := (sc_L_is_3).nd
  exact (jss_cons (js_tryC hN takes0 (fun _ _ _ tk => (jb_expr (jc_call (ok_L_raised T) tk (hr.mono (by decide)) T.g_L_raised T.F_L_raised.kp (bi_L_raised T) (ja_cons (je_var 0) (ja_cons (je_var 1) (ja_cons (je_var 2) ja_nil)))))) (.cons0 (hc := 28) T.g_BadFit (tabC_ok T.e_BadCall_BadFit (tabC_ok T.e_BadFit_BadFit (tabC_ok T.e_BadOpening_BadFit (tabC_ok T.e_BadProgram_BadFit (tabC_ok T.e_BadSchedule_BadFit (tabC_ok T.e_BadSource_BadFit (tabC_ok T.e_BadTree_BadFit tabN_ok))))))) (fun _ _ _ => (jss_one (js_ret (je_cmp (o_eq (have z := room65 hr; z)) (je_var 2) je_int (nomark _))))) (.cons0 (hc := 24) T.g_CourtError (tabC_ok T.e_BadCall_CourtError (tabC_ok T.e_BadFit_CourtError (tabC_ok T.e_BadOpening_CourtError (tabC_ok T.e_BadProgram_CourtError (tabC_ok T.e_BadSchedule_CourtError (tabC_ok T.e_BadSource_CourtError (tabC_ok T.e_BadTree_CourtError tabN_ok))))))) (fun _ _ _ => (jss_one (js_ret (je_cmp (o_ne (have z := room65 hr; z)) (je_var 2) je_int (nomark _))))) .nil)))
    (jss_one (js_ret je_bl)))
theorem sc_L_is_4 : FnScope ["_law_line", "_law_reason", "_law_which"] ["_law_line", "_law_reason", "_law_which"] (defScope s_L_is_4) := ⟨rfl, rfl, rfl, by decide +kernel, rfl, by decide +kernel, by decide +kernel⟩
theorem bi_L_is_4 (T : Tx K mg Cl) : Binds K T.d_L_is_4 ["_law_line", "_law_reason", "_law_which"] [] := T.F_L_is_4.binds fun _ _ _ _ _ _ us hl => match us, hl with | [_, _, _], _ => rfl
theorem ok_L_is_4 (T : Tx K mg Cl) : FnOk P w K mg base CX0 4 T.a_L_is_4 T.d_L_is_4 ["_law_line", "_law_reason", "_law_which"] (spM K Cl 3 m_L_is_4) := by
  refine fn_ok T.F_L_is_4 sc_L_is_4 rfl rfl fun cdv A outer s H E hr => ?_
  have hN := (sc_L_is_4).nd
  exact (jss_cons (js_tryC hN takes0 (fun _ _ _ tk => (jb_expr (jc_call (ok_L_raised T) tk (hr.mono (by decide)) T.g_L_raised T.F_L_raised.kp (bi_L_raised T) (ja_cons (je_var 0) (ja_cons (je_var 1) (ja_cons (je_var 2) ja_nil)))))) (.cons0 (hc := 29) T.g_BadOpening (tabC_ok T.e_BadCall_BadOpening (tabC_ok T.e_BadFit_BadOpening (tabC_ok T.e_BadOpening_BadOpening (tabC_ok T.e_BadProgram_BadOpening (tabC_ok T.e_BadSchedule_BadOpening (tabC_ok T.e_BadSource_BadOpening (tabC_ok T.e_BadTree_BadOpening tabN_ok))))))) (fun _ _ _ => (jss_one (js_ret (je_cmp (o_eq (have z := room65 hr; z)) (je_var 2) je_int (nomark _))))) (.cons0 (hc := 24) T.g_CourtError (tabC_ok T.e_BadCall_CourtError (tabC_ok T.e_BadFit_CourtError (tabC_ok T.e_BadOpening_CourtError (tabC_ok T.e_BadProgram_CourtError (tabC_ok T.e_BadSchedule_CourtError (tabC_ok T.e_BadSource_CourtError (tabC_ok T.e_BadTree_CourtError tabN_ok))))))) (fun _ _ _ => (jss_one (js_ret (je_cmp (o_ne (have z := room65 hr; z)) (je_var 2) je_int (nomark _))))) .nil)))
    (jss_one (js_ret je_bl)))
theorem sc_L_is_5 : FnScope ["_law_line", "_law_reason", "_law_which"] ["_law_line", "_law_reason", "_law_which"] (defScope s_L_is_5) := ⟨rfl, rfl, rfl, by decide +kernel, rfl, by decide +kernel, by decide +kernel⟩
theorem bi_L_is_5 (T : Tx K mg Cl) : Binds K T.d_L_is_5 ["_law_line", "_law_reason", "_law_which"] [] := T.F_L_is_5.binds fun _ _ _ _ _ _ us hl => match us, hl with | [_, _, _], _ => rfl
theorem ok_L_is_5 (T : Tx K mg Cl) : FnOk P w K mg base CX0 4 T.a_L_is_5 T.d_L_is_5 ["_law_line", "_law_reason", "_law_which"] (spM K Cl 3 m_L_is_5) := by
  refine fn_ok T.F_L_is_5 sc_L_is_5 rfl rfl fun cdv A outer s H E hr => ?_
  have hN := (sc_L_is_5).nd
  exact (jss_cons (js_tryC hN takes0 (fun _ _ _ tk => (jb_expr (jc_call (ok_L_raised T) tk (hr.mono (by decide)) T.g_L_raised T.F_L_raised.kp (bi_L_raised T) (ja_cons (je_var 0) (ja_cons (je_var 1) (ja_cons (je_var 2) ja_nil)))))) (.cons0 (hc := 30) T.g_BadCall (tabC_ok T.e_BadCall_BadCall (tabC_ok T.e_BadFit_BadCall (tabC_ok T.e_BadOpening_BadCall (tabC_ok T.e_BadProgram_BadCall (tabC_ok T.e_BadSchedule_BadCall (tabC_ok T.e_BadSource_BadCall (tabC_ok T.e_BadTree_BadCall tabN_ok))))))) (fun _ _ _ => (jss_one (js_ret (je_cmp (o_eq (have z := room65 hr; z)) (je_var 2) je_int (nomark _))))) (.cons0 (hc := 24) T.g_CourtError (tabC_ok T.e_BadCall_CourtError (tabC_ok T.e_BadFit_CourtError (tabC_ok T.e_BadOpening_CourtError (tabC_ok T.e_BadProgram_CourtError (tabC_ok T.e_BadSchedule_CourtError (tabC_ok T.e_BadSource_CourtError (tabC_ok T.e_BadTree_CourtError tabN_ok))))))) (fun _ _ _ => (jss_one (js_ret (je_cmp (o_ne (have z := room65 hr; z)) (je_var 2) je_int (nomark _))))) .nil)))
    (jss_one (js_ret je_bl)))
theorem sc_L_is_6 : FnScope ["_law_line", "_law_reason", "_law_which"] ["_law_line", "_law_reason", "_law_which"] (defScope s_L_is_6) := ⟨rfl, rfl, rfl, by decide +kernel, rfl, by decide +kernel, by decide +kernel⟩
theorem bi_L_is_6 (T : Tx K mg Cl) : Binds K T.d_L_is_6 ["_law_line", "_law_reason", "_law_which"] [] := T.F_L_is_6.binds fun _ _ _ _ _ _ us hl => match us, hl with | [_, _, _], _ => rfl
theorem ok_L_is_6 (T : Tx K mg Cl) : FnOk P w K mg base CX0 4 T.a_L_is_6 T.d_L_is_6 ["_law_line", "_law_reason", "_law_which"] (spM K Cl 3 m_L_is_6) := by
  refine fn_ok T.F_L_is_6 sc_L_is_6 rfl rfl fun cdv A outer s H E hr => ?_
  have hN := (sc_L_is_6).nd
  exact (jss_cons (js_tryC hN takes0 (fun _ _ _ tk => (jb_expr (jc_call (ok_L_raised T) tk (hr.mono (by decide)) T.g_L_raised T.F_L_raised.kp (bi_L_raised T) (ja_cons (je_var 0) (ja_cons (je_var 1) (ja_cons (je_var 2) ja_nil)))))) (.cons0 (hc := 26) T.g_BadTree (tabC_ok T.e_BadCall_BadTree (tabC_ok T.e_BadFit_BadTree (tabC_ok T.e_BadOpening_BadTree (tabC_ok T.e_BadProgram_BadTree (tabC_ok T.e_BadSchedule_BadTree (tabC_ok T.e_BadSource_BadTree (tabC_ok T.e_BadTree_BadTree tabN_ok))))))) (fun _ _ _ => (jss_one (js_ret (je_cmp (o_eq (have z := room65 hr; z)) (je_var 2) je_int (nomark _))))) (.cons0 (hc := 24) T.g_CourtError (tabC_ok T.e_BadCall_CourtError (tabC_ok T.e_BadFit_CourtError (tabC_ok T.e_BadOpening_CourtError (tabC_ok T.e_BadProgram_CourtError (tabC_ok T.e_BadSchedule_CourtError (tabC_ok T.e_BadSource_CourtError (tabC_ok T.e_BadTree_CourtError tabN_ok))))))) (fun _ _ _ => (jss_one (js_ret (je_cmp (o_ne (have z := room65 hr; z)) (je_var 2) je_int (nomark _))))) .nil)))
    (jss_one (js_ret je_bl)))
theorem sc_law : FnScope ["_law_script", "_law_line", "_law_reason", "_law_which", "_law_told"] ["_law_script"] (defScope s_law) := ⟨rfl, rfl, rfl, by decide +kernel, rfl, by decide +kernel, by decide +kernel⟩
theorem bi_law (T : Tx K mg Cl) : Binds K T.d_law ["_law_script"] [] := T.F_law.binds fun _ _ _ _ _ _ us hl => match us, hl with | [_], _ => rfl
theorem ok_law (T : Tx K mg Cl) : FnOk P w K mg base CX0 5 T.a_law T.d_law ["_law_script"] (spM K Cl 1 m_law) := by
  refine fn_ok T.F_law sc_law rfl rfl fun cdv A outer s H E hr => ?_
  have hN := (sc_law).nd
  exact (jss_cons (js_set 1 hN (je_op o_add je_int (je_op o_mod (je_call (ok_L_cell T) (hr.mono (by decide)) T.g_L_cell T.F_L_cell.kp (bi_L_cell T) (let0 nox_def) (ja_cons (je_var 0) (ja_cons je_int ja_nil))) (je_op o_pow je_int je_int))))
    (jss_cons (js_set 2 hN (je_ix (je_lst (ja_cons je_str (ja_cons je_str (ja_cons je_str ja_nil)))) (je_op o_mod (je_call (ok_L_cell T) (hr.mono (by decide)) T.g_L_cell T.F_L_cell.kp (bi_L_cell T) (let0 nox_def) (ja_cons (je_var 0) (ja_cons je_int ja_nil))) je_int)))
    (jss_cons (js_for PassesOwn.never rfl (ji_rng1 T.b_range (ja_cons je_int ja_nil)) (jg_name 3 hN) (jss_cons (js_set 4 hN (je_lst (ja_cons (je_call (ok_L_is_0 T) (hr.mono (by decide)) T.g_L_is_0 T.F_L_is_0.kp (bi_L_is_0 T) (let0 nox_def) (ja_cons (je_var 1) (ja_cons (je_var 2) (ja_cons (je_var 3) ja_nil)))) (ja_cons (je_call (ok_L_is_1 T) (hr.mono (by decide)) T.g_L_is_1 T.F_L_is_1.kp (bi_L_is_1 T) (let0 nox_def) (ja_cons (je_var 1) (ja_cons (je_var 2) (ja_cons (je_var 3) ja_nil)))) (ja_cons (je_call (ok_L_is_2 T) (hr.mono (by decide)) T.g_L_is_2 T.F_L_is_2.kp (bi_L_is_2 T) (let0 nox_def) (ja_cons (je_var 1) (ja_cons (je_var 2) (ja_cons (je_var 3) ja_nil)))) ja_nil)))))
    (jss_cons (js_set 4 hN (je_op o_add (je_var 4) (je_lst (ja_cons (je_call (ok_L_is_3 T) (hr.mono (by decide)) T.g_L_is_3 T.F_L_is_3.kp (bi_L_is_3 T) (let0 nox_def) (ja_cons (je_var 1) (ja_cons (je_var 2) (ja_cons (je_var 3) ja_nil)))) (ja_cons (je_call (ok_L_is_4 T) (hr.mono (by decide)) T.g_L_is_4 T.F_L_is_4.kp (bi_L_is_4 T) (let0 nox_def) (ja_cons (je_var 1) (ja_cons (je_var 2) (ja_cons (je_var 3) ja_nil)))) (ja_cons (je_call (ok_L_is_5 T) (hr.mono (by decide)) T.g_L_is_5 T.F_L_is_5.kp (bi_L_is_5 T) (let0 nox_def) (ja_cons (je_var 1) (ja_cons (je_var 2) (ja_cons (je_var 3) ja_nil)))) ja_nil))))))
    (jss_one (js_if (jt_w (jw_or (jt_cmp (o_ne (room65 hr)) (je_var 4) (je_op o_mul (je_lst (ja_cons je_bl ja_nil)) je_int) (nomark _)) (jw_or1 (jt_not (jt_tru (je_call (ok_L_is_6 T) (hr.mono (by decide)) T.g_L_is_6 T.F_L_is_6.kp (bi_L_is_6 T) (let0 nox_def) (ja_cons (je_var 1) (ja_cons (je_var 2) (ja_cons (je_var 3) ja_nil))))))))) (jss_one (js_ret je_bl)) jss_nil)))))
    (jss_cons (js_if (jt_cmp (o_ne (room65 hr)) (je_tup (ja_cons (je_glob T.c_MOST_TEXT) (ja_cons (je_glob T.c_MOST_NAME) (ja_cons (je_glob T.c_MOST_SIZE) (ja_cons (je_glob T.c_MOST_TABLES) (ja_cons (je_glob T.c_MOST_FUNCTIONS) (ja_cons (je_glob T.c_MOST_PARAMS) ja_nil))))))) (je_tup (ja_cons je_int (ja_cons je_int (ja_cons je_int (ja_cons je_int (ja_cons je_int (ja_cons je_int ja_nil))))))) (nomark _)) (jss_one (js_ret je_bl)) jss_nil)
    (jss_cons (js_if (jt_cmp (o_ne (room65 hr)) (je_tup (ja_cons (je_glob T.c_MOST_NESTED) (ja_cons (je_glob T.c_MOST_OPEN) (ja_cons (je_glob T.c_MOST_PLAYERS) (ja_cons (je_glob T.c_MOST_LATE) ja_nil))))) (je_tup (ja_cons je_int (ja_cons je_int (ja_cons je_int (ja_cons je_int ja_nil))))) (nomark _)) (jss_one (js_ret je_bl)) jss_nil)
    (jss_one (js_ret (je_cmp (o_eq (room65 hr)) (je_tup (ja_cons (je_glob T.c_DEPTH) (ja_cons (je_glob T.c_MOST_WORD) (ja_cons (je_glob T.c_MOST_INPUTS) (ja_cons (je_glob T.c_MOST_TOLD) (ja_cons (je_glob T.c_MOST_LEVEL) ja_nil)))))) (je_tup (ja_cons je_int (ja_cons je_int (ja_cons je_int (ja_cons je_int (ja_cons je_int ja_nil)))))) (nomark _)))))))))
end

end Gn
namespace Gn
open PySem L2 Mi
def clsN : Nat → Nat
  | 0 => 25 | 1 => 27 | 2 => 31 | 3 => 28 | 4 => 29 | 5 => 30 | _ => 26
def fldN (l : Int) (r : Str) : Nat → Fl
  | 0 => [("reason", .str r), ("line", .int l)] | 1 => [("reason", .str r)] | 2 => [("line", .int l)] | _ => []
theorem lt7 {k : Nat} (h : k < 7) : k = 0 ∨ k = 1 ∨ k = 2 ∨ k = 3 ∨ k = 4 ∨ k = 5 ∨ k = 6 := by omega
theorem t_raised (l : Int) (r : Str) (k : Nat) (hk : k < 7) (st : Sto) : m_L_raised [.int l, .str r, .int (k : Int)] st = .exc (clsN k) (fldN l r k) st := by
  rcases lt7 hk with rfl | rfl | rfl | rfl | rfl | rfl | rfl <;> simp [m_L_raised, b_L_raised, clsN, fldN]
section
variable (l : Int) (r : Str) (hr : PyData.strOk r = true) (k : Nat) (hk : k < 7) (st : Sto)
include hr hk
theorem t_is0 : m_L_is_0 [.int l, .str r, .int (k : Int)] st = .ok (.bl true) st := by
  have e := t_raised l r k hk st
  rcases lt7 hk with rfl | rfl | rfl | rfl | rfl | rfl | rfl <;> simp [clsN, fldN] at e <;> simp [m_L_is_0, b_L_is_0, e, mCla, tabC, dropI, dropO, inI, hr]
theorem t_is1 : m_L_is_1 [.int l, .str r, .int (k : Int)] st = .ok (.bl true) st := by
  have e := t_raised l r k hk st
  rcases lt7 hk with rfl | rfl | rfl | rfl | rfl | rfl | rfl <;> simp [clsN, fldN] at e <;> simp [m_L_is_1, b_L_is_1, e, mCla, tabC, dropI, dropO, inI, hr]
theorem t_is2 : m_L_is_2 [.int l, .str r, .int (k : Int)] st = .ok (.bl true) st := by
  have e := t_raised l r k hk st
  rcases lt7 hk with rfl | rfl | rfl | rfl | rfl | rfl | rfl <;> simp [clsN, fldN] at e <;> simp [m_L_is_2, b_L_is_2, e, mCla, tabC, dropI, dropO, inI, hr]
theorem t_is3 : m_L_is_3 [.int l, .str r, .int (k : Int)] st = .ok (.bl true) st := by
  have e := t_raised l r k hk st
  rcases lt7 hk with rfl | rfl | rfl | rfl | rfl | rfl | rfl <;> simp [clsN, fldN] at e <;> simp [m_L_is_3, b_L_is_3, e, mCla, tabC, dropI, dropO, inI, hr]
theorem t_is4 : m_L_is_4 [.int l, .str r, .int (k : Int)] st = .ok (.bl true) st := by
  have e := t_raised l r k hk st
  rcases lt7 hk with rfl | rfl | rfl | rfl | rfl | rfl | rfl <;> simp [clsN, fldN] at e <;> simp [m_L_is_4, b_L_is_4, e, mCla, tabC, dropI, dropO, inI, hr]
theorem t_is5 : m_L_is_5 [.int l, .str r, .int (k : Int)] st = .ok (.bl true) st := by
  have e := t_raised l r k hk st
  rcases lt7 hk with rfl | rfl | rfl | rfl | rfl | rfl | rfl <;> simp [clsN, fldN] at e <;> simp [m_L_is_5, b_L_is_5, e, mCla, tabC, dropI, dropO, inI, hr]
theorem t_is6 : m_L_is_6 [.int l, .str r, .int (k : Int)] st = .ok (.bl true) st := by
  have e := t_raised l r k hk st
  rcases lt7 hk with rfl | rfl | rfl | rfl | rfl | rfl | rfl <;> simp [clsN, fldN] at e <;> simp [m_L_is_6, b_L_is_6, e, mCla, tabC, dropI, dropO, inI, hr]
end
end Gn

namespace Gn
open PySem L2 Mi
theorem t_cell (ns : List Int) (hn : ns.length ≤ 63) (k : Nat) (st : Sto) : ∃ c : Int, m_L_cell [.xst (ns.map W.int), .int (k : Int)] st = .ok (.int c) st ∧ 0 ≤ c := by
  have hl : ns.length ≤ 16777216 := by omega
  by_cases h : k < ns.length
  · have hat : atI (ns.map W.int) (k : Int) = some (.int ns[k]) := by rw [Mi.atI_nat]; simp [h]
    have h' : (k : Int) < (ns.length : Int) := by omega
    generalize ns[k] = v at hat
    refine ⟨if v < 0 then -v else v, ?_, by split <;> omega⟩
    simp [m_L_cell, b_L_cell, sizeLine_eq, hl, h', hat]
  · have h' : ¬ (k : Int) < (ns.length : Int) := by omega
    exact ⟨0, by simp [m_L_cell, b_L_cell, sizeLine_eq, hl, h'], by omega⟩
theorem t_round (x0 x4 : Option W) (l : Int) (r : Str) (hr : PyData.strOk r = true) (k : Nat) (hk : k < 7) (st : Sto) : ∃ y4, l0_law [x0, some (.int l), some (.str r), some (.int (k : Int)), x4] st = .nx [x0, some (.int l), some (.str r), some (.int (k : Int)), y4] st := by
  have e0 := t_is0 l r hr k hk st
  have e1 := t_is1 l r hr k hk st
  have e2 := t_is2 l r hr k hk st
  have e3 := t_is3 l r hr k hk st
  have e4 := t_is4 l r hr k hk st
  have e5 := t_is5 l r hr k hk st
  have e6 := t_is6 l r hr k hk st
  refine ⟨some (.lst [.bl true, .bl true, .bl true, .bl true, .bl true, .bl true]), ?_⟩
  unfold l0_law
  refine seq_nx (by simp [e0, e1, e2, sizeLine_eq]; exact ⟨rfl, rfl⟩) ?_
  refine seq_nx (by simp [e3, e4, e5, sizeLine_eq]; exact ⟨rfl, rfl⟩) ?_
  simp [e6, sizeLine_eq]
theorem law_true : ∀ ns : List Int, ns.length ≤ 63 → (∀ z ∈ ns, Builtin.Int.intBits z ≤ 1048576) → ∃ st, m_law [.xst (ns.map W.int)] [] = .ok (.bl true) st := by
  intro ns hn _
  obtain ⟨c, e1, c0⟩ := t_cell ns hn 0 []
  obtain ⟨c2, e2, c20⟩ := t_cell ns hn 1 []
  obtain ⟨r, hr, hat⟩ : ∃ r : Str, PyData.strOk r = true ∧ atI [W.str "a name is missing", W.str "too long", W.str ""] (c2 % 3) = some (.str r) := by
    have : c2 % 3 = 0 ∨ c2 % 3 = 1 ∨ c2 % 3 = 2 := by omega
    rcases this with h | h | h <;> rw [h]
    · exact ⟨"a name is missing", strOk_lit _, rfl⟩
    · exact ⟨"too long", strOk_lit _, rfl⟩
    · exact ⟨"", strOk_lit _, rfl⟩
  obtain ⟨s8, t8, hlp, ⟨x3, x4, rfl⟩, rfl⟩ := loop_nx (ws := rngW 0 7) (g := mGN 3) (n := 7) (s := [some (.xst (ns.map W.int)), some (.int (1 + c % 1000000000)), some (.str r), none, none]) (st := []) (body := l0_law) (by simp)
    (fun k s t => (∃ x3 x4, s = [some (.xst (ns.map W.int)), some (.int (1 + c % 1000000000)), some (.str r), x3, x4]) ∧ t = [])
    ⟨⟨_, _, rfl⟩, rfl⟩ (by
      rintro k w s t hw ⟨⟨x3, x4, rfl⟩, rfl⟩
      obtain ⟨hk, rfl⟩ := rng0_get hw
      obtain ⟨y4, e⟩ := t_round (some (.xst (ns.map W.int))) x4 (1 + c % 1000000000) r hr k hk []
      exact ⟨_, _, rfl, _, _, .inl e, ⟨_, _, rfl⟩, rfl⟩)
  have lg9 : (1000000000 : Nat).log2 < 9000 := by decide
  refine ⟨[], def_rt rfl ?_⟩
  show b_law [some (.xst (ns.map W.int)), none, none, none, none] [] = _
  unfold b_law
  have e1' : m_L_cell [.xst (ns.map W.int), .int 0] [] = .ok (.int c) [] := e1
  have e2' : m_L_cell [.xst (ns.map W.int), .int 1] [] = .ok (.int c2) [] := e2
  refine seq_nx (by simp [e1', lg9]; exact ⟨rfl, rfl⟩) ?_
  refine seq_nx (by simp [e2', hat, sizeLine_eq]; exact ⟨rfl, rfl⟩) ?_
  refine seq_nx (mFor_vals (rng1_nat (k := 7) (st1 := []) (by simp) (by omega)) (by simp) hlp) ?_
  refine seq_nx (by simp [sizeLine_eq, w_MOST_TEXT, w_MOST_NAME, w_MOST_SIZE, w_MOST_TABLES, w_MOST_FUNCTIONS, w_MOST_PARAMS]; exact ⟨rfl, rfl⟩) ?_
  refine seq_nx (by simp [sizeLine_eq, w_MOST_NESTED, w_MOST_OPEN, w_MOST_PLAYERS, w_MOST_LATE]; exact ⟨rfl, rfl⟩) ?_
  simp [sizeLine_eq, w_DEPTH, w_MOST_WORD, w_MOST_INPUTS, w_MOST_TOLD, w_MOST_LEVEL]
end Gn

namespace Gn
open PySem L2 Mi
/-! ### what the top has written -/
theorem all_mk {l : PySem.W.OpenLaw} {w : World} {K : PySem.W.Frag} {h : Heap} {mg : Str → Option Value} {fa : Addr} (X : K.In h) (G : h.Ns mainGlobals mg) (hfa : mg "law" = some (.ref fa))
    {f_L_cell : Addr} {od_L_cell an_L_cell : Option Addr} {sl_L_cell : Array (Option Value)} {oc_L_cell kV_L_cell dc_L_cell pm_L_cell cd_L_cell ct_L_cell : Value}
    {f_BadSource_init : Addr} {od_BadSource_init an_BadSource_init : Option Addr} {sl_BadSource_init : Array (Option Value)} {oc_BadSource_init kV_BadSource_init dc_BadSource_init pm_BadSource_init cd_BadSource_init ct_BadSource_init : Value}
    {xn_BadSource xq_BadSource : Str} {xN_BadSource : Addr} {xb_BadSource : List Value} {xs_BadSource : List Str} {xu_BadSource : List Value} {xa_BadSource : Bool} {xc_BadSource : Option Bool} {xd_BadSource : Option Addr} {x0_BadSource x1_BadSource x2_BadSource x3_BadSource x5_BadSource : Option Value}
    {f_BadProgram_init : Addr} {od_BadProgram_init an_BadProgram_init : Option Addr} {sl_BadProgram_init : Array (Option Value)} {oc_BadProgram_init kV_BadProgram_init dc_BadProgram_init pm_BadProgram_init cd_BadProgram_init ct_BadProgram_init : Value}
    {xn_BadProgram xq_BadProgram : Str} {xN_BadProgram : Addr} {xb_BadProgram : List Value} {xs_BadProgram : List Str} {xu_BadProgram : List Value} {xa_BadProgram : Bool} {xc_BadProgram : Option Bool} {xd_BadProgram : Option Addr} {x0_BadProgram x1_BadProgram x2_BadProgram x3_BadProgram x5_BadProgram : Option Value}
    {f_BadSchedule_init : Addr} {od_BadSchedule_init an_BadSchedule_init : Option Addr} {sl_BadSchedule_init : Array (Option Value)} {oc_BadSchedule_init kV_BadSchedule_init dc_BadSchedule_init pm_BadSchedule_init cd_BadSchedule_init ct_BadSchedule_init : Value}
    {xn_BadSchedule xq_BadSchedule : Str} {xN_BadSchedule : Addr} {xb_BadSchedule : List Value} {xs_BadSchedule : List Str} {xu_BadSchedule : List Value} {xa_BadSchedule : Bool} {xc_BadSchedule : Option Bool} {xd_BadSchedule : Option Addr} {x0_BadSchedule x1_BadSchedule x2_BadSchedule x3_BadSchedule x5_BadSchedule : Option Value}
    {f_L_raised : Addr} {od_L_raised an_L_raised : Option Addr} {sl_L_raised : Array (Option Value)} {oc_L_raised kV_L_raised dc_L_raised pm_L_raised cd_L_raised ct_L_raised : Value}
    {f_L_is_0 : Addr} {od_L_is_0 an_L_is_0 : Option Addr} {sl_L_is_0 : Array (Option Value)} {oc_L_is_0 kV_L_is_0 dc_L_is_0 pm_L_is_0 cd_L_is_0 ct_L_is_0 : Value}
    {f_L_is_1 : Addr} {od_L_is_1 an_L_is_1 : Option Addr} {sl_L_is_1 : Array (Option Value)} {oc_L_is_1 kV_L_is_1 dc_L_is_1 pm_L_is_1 cd_L_is_1 ct_L_is_1 : Value}
    {f_L_is_2 : Addr} {od_L_is_2 an_L_is_2 : Option Addr} {sl_L_is_2 : Array (Option Value)} {oc_L_is_2 kV_L_is_2 dc_L_is_2 pm_L_is_2 cd_L_is_2 ct_L_is_2 : Value}
    {f_L_is_3 : Addr} {od_L_is_3 an_L_is_3 : Option Addr} {sl_L_is_3 : Array (Option Value)} {oc_L_is_3 kV_L_is_3 dc_L_is_3 pm_L_is_3 cd_L_is_3 ct_L_is_3 : Value}
    {f_L_is_4 : Addr} {od_L_is_4 an_L_is_4 : Option Addr} {sl_L_is_4 : Array (Option Value)} {oc_L_is_4 kV_L_is_4 dc_L_is_4 pm_L_is_4 cd_L_is_4 ct_L_is_4 : Value}
    {f_L_is_5 : Addr} {od_L_is_5 an_L_is_5 : Option Addr} {sl_L_is_5 : Array (Option Value)} {oc_L_is_5 kV_L_is_5 dc_L_is_5 pm_L_is_5 cd_L_is_5 ct_L_is_5 : Value}
    {f_L_is_6 : Addr} {od_L_is_6 an_L_is_6 : Option Addr} {sl_L_is_6 : Array (Option Value)} {oc_L_is_6 kV_L_is_6 dc_L_is_6 pm_L_is_6 cd_L_is_6 ct_L_is_6 : Value}
    {f_law : Addr} {od_law an_law : Option Addr} {sl_law : Array (Option Value)} {oc_law kV_law dc_law pm_law cd_law ct_law : Value}
    {C_CourtError : Addr}
    {C_BadSource : Addr}
    {C_BadTree : Addr}
    {C_BadProgram : Addr}
    {C_BadFit : Addr}
    {C_BadOpening : Addr}
    {C_BadCall : Addr}
    {C_BadSchedule : Addr}
    {t_MOST_PARAMS : Tok}
    {t_MOST_FUNCTIONS : Tok}
    {t_MOST_TABLES : Tok}
    {t_MOST_SIZE : Tok}
    {t_MOST_NAME : Tok}
    {t_MOST_TEXT : Tok}
    {t_MOST_LATE : Tok}
    {t_MOST_PLAYERS : Tok}
    {t_MOST_OPEN : Tok}
    {t_MOST_NESTED : Tok}
    {t_MOST_LEVEL : Tok}
    {t_MOST_TOLD : Tok}
    {t_MOST_INPUTS : Tok}
    {t_MOST_WORD : Tok}
    {t_DEPTH : Tok}
    (aC_CourtError : PySem.W.nsIn K mainGlobals "CourtError" = some (some (.ref C_CourtError)))
    (aC_BadSource : PySem.W.nsIn K mainGlobals "BadSource" = some (some (.ref C_BadSource)))
    (aC_BadTree : PySem.W.nsIn K mainGlobals "BadTree" = some (some (.ref C_BadTree)))
    (aC_BadProgram : PySem.W.nsIn K mainGlobals "BadProgram" = some (some (.ref C_BadProgram)))
    (aC_BadFit : PySem.W.nsIn K mainGlobals "BadFit" = some (some (.ref C_BadFit)))
    (aC_BadOpening : PySem.W.nsIn K mainGlobals "BadOpening" = some (some (.ref C_BadOpening)))
    (aC_BadCall : PySem.W.nsIn K mainGlobals "BadCall" = some (some (.ref C_BadCall)))
    (aC_BadSchedule : PySem.W.nsIn K mainGlobals "BadSchedule" = some (some (.ref C_BadSchedule)))
    (a_L_cell : PySem.W.nsIn K mainGlobals "_law_cell" = some (some (.ref f_L_cell)))
    (l_L_cell : K.lookup f_L_cell = some ⟨oc_L_cell, od_L_cell, .func (PySem.W.fnOf "_law_cell" "_law_cell" (defArgs s_L_cell) (defBody s_L_cell) (defScope s_L_cell) .none kV_L_cell dc_L_cell pm_L_cell an_L_cell cd_L_cell ct_L_cell), sl_L_cell⟩)
    (c_L_cell : PySem.W.codeIn K cd_L_cell "_law_cell" = true)
    (k_L_cell : PySem.W.keepIn K (.ref f_L_cell) = true)
    (a_BadSource_init : PySem.W.findIn K (.ref C_BadSource) "__init__" = some (some (.ref f_BadSource_init)))
    (l_BadSource_init : K.lookup f_BadSource_init = some ⟨oc_BadSource_init, od_BadSource_init, .func (PySem.W.fnOf "__init__" "BadSource.__init__" (defArgs s_BadSource_init) (defBody s_BadSource_init) (defScope s_BadSource_init) .none kV_BadSource_init dc_BadSource_init pm_BadSource_init an_BadSource_init cd_BadSource_init ct_BadSource_init), sl_BadSource_init⟩)
    (c_BadSource_init : PySem.W.codeIn K cd_BadSource_init "BadSource.__init__" = true)
    (k_BadSource_init : PySem.W.keepIn K (.ref f_BadSource_init) = true)
    (xL_BadSource : K.lookup C_BadSource = some (excClassObj xn_BadSource xq_BadSource C_BadSource xN_BadSource xb_BadSource [.ref C_CourtError, .type "ValueError", .type "Exception", .type "BaseException", .type "object"] true xs_BadSource xu_BadSource xa_BadSource xc_BadSource xd_BadSource x0_BadSource x1_BadSource x2_BadSource x3_BadSource x5_BadSource "ValueError.__new__"))
    (xs_a_BadSource : PySem.W.findIn K (.ref C_BadSource) "__setattr__" = some (some (.builtin "object.__setattr__")))
    (xe_b_BadSource : PySem.W.subIn K (.ref C_BadSource) (.type "BaseException") = some true)
    (xt_BadSource : PySem.W.typeIn K (.ref C_BadSource) = some (.type "type"))
    (xk_BadSource : PySem.W.keepIn K (.ref C_BadSource) = true)
    (xti_BadSource : PySem.W.typeIn K (.ref f_BadSource_init) = some (.type "function"))
    (xnf_BadSource_line : PySem.W.findIn K (.ref C_BadSource) "line" = some none)
    (xnf_BadSource_reason : PySem.W.findIn K (.ref C_BadSource) "reason" = some none)
    (a_BadProgram_init : PySem.W.findIn K (.ref C_BadProgram) "__init__" = some (some (.ref f_BadProgram_init)))
    (l_BadProgram_init : K.lookup f_BadProgram_init = some ⟨oc_BadProgram_init, od_BadProgram_init, .func (PySem.W.fnOf "__init__" "BadProgram.__init__" (defArgs s_BadProgram_init) (defBody s_BadProgram_init) (defScope s_BadProgram_init) .none kV_BadProgram_init dc_BadProgram_init pm_BadProgram_init an_BadProgram_init cd_BadProgram_init ct_BadProgram_init), sl_BadProgram_init⟩)
    (c_BadProgram_init : PySem.W.codeIn K cd_BadProgram_init "BadProgram.__init__" = true)
    (k_BadProgram_init : PySem.W.keepIn K (.ref f_BadProgram_init) = true)
    (xL_BadProgram : K.lookup C_BadProgram = some (excClassObj xn_BadProgram xq_BadProgram C_BadProgram xN_BadProgram xb_BadProgram [.ref C_CourtError, .type "ValueError", .type "Exception", .type "BaseException", .type "object"] true xs_BadProgram xu_BadProgram xa_BadProgram xc_BadProgram xd_BadProgram x0_BadProgram x1_BadProgram x2_BadProgram x3_BadProgram x5_BadProgram "ValueError.__new__"))
    (xs_a_BadProgram : PySem.W.findIn K (.ref C_BadProgram) "__setattr__" = some (some (.builtin "object.__setattr__")))
    (xe_b_BadProgram : PySem.W.subIn K (.ref C_BadProgram) (.type "BaseException") = some true)
    (xt_BadProgram : PySem.W.typeIn K (.ref C_BadProgram) = some (.type "type"))
    (xk_BadProgram : PySem.W.keepIn K (.ref C_BadProgram) = true)
    (xti_BadProgram : PySem.W.typeIn K (.ref f_BadProgram_init) = some (.type "function"))
    (xnf_BadProgram_reason : PySem.W.findIn K (.ref C_BadProgram) "reason" = some none)
    (a_BadSchedule_init : PySem.W.findIn K (.ref C_BadSchedule) "__init__" = some (some (.ref f_BadSchedule_init)))
    (l_BadSchedule_init : K.lookup f_BadSchedule_init = some ⟨oc_BadSchedule_init, od_BadSchedule_init, .func (PySem.W.fnOf "__init__" "BadSchedule.__init__" (defArgs s_BadSchedule_init) (defBody s_BadSchedule_init) (defScope s_BadSchedule_init) .none kV_BadSchedule_init dc_BadSchedule_init pm_BadSchedule_init an_BadSchedule_init cd_BadSchedule_init ct_BadSchedule_init), sl_BadSchedule_init⟩)
    (c_BadSchedule_init : PySem.W.codeIn K cd_BadSchedule_init "BadSchedule.__init__" = true)
    (k_BadSchedule_init : PySem.W.keepIn K (.ref f_BadSchedule_init) = true)
    (xL_BadSchedule : K.lookup C_BadSchedule = some (excClassObj xn_BadSchedule xq_BadSchedule C_BadSchedule xN_BadSchedule xb_BadSchedule [.ref C_CourtError, .type "ValueError", .type "Exception", .type "BaseException", .type "object"] true xs_BadSchedule xu_BadSchedule xa_BadSchedule xc_BadSchedule xd_BadSchedule x0_BadSchedule x1_BadSchedule x2_BadSchedule x3_BadSchedule x5_BadSchedule "ValueError.__new__"))
    (xs_a_BadSchedule : PySem.W.findIn K (.ref C_BadSchedule) "__setattr__" = some (some (.builtin "object.__setattr__")))
    (xe_b_BadSchedule : PySem.W.subIn K (.ref C_BadSchedule) (.type "BaseException") = some true)
    (xt_BadSchedule : PySem.W.typeIn K (.ref C_BadSchedule) = some (.type "type"))
    (xk_BadSchedule : PySem.W.keepIn K (.ref C_BadSchedule) = true)
    (xti_BadSchedule : PySem.W.typeIn K (.ref f_BadSchedule_init) = some (.type "function"))
    (xnf_BadSchedule_line : PySem.W.findIn K (.ref C_BadSchedule) "line" = some none)
    (a_L_raised : PySem.W.nsIn K mainGlobals "_law_raised" = some (some (.ref f_L_raised)))
    (l_L_raised : K.lookup f_L_raised = some ⟨oc_L_raised, od_L_raised, .func (PySem.W.fnOf "_law_raised" "_law_raised" (defArgs s_L_raised) (defBody s_L_raised) (defScope s_L_raised) .none kV_L_raised dc_L_raised pm_L_raised an_L_raised cd_L_raised ct_L_raised), sl_L_raised⟩)
    (c_L_raised : PySem.W.codeIn K cd_L_raised "_law_raised" = true)
    (k_L_raised : PySem.W.keepIn K (.ref f_L_raised) = true)
    (a_L_is_0 : PySem.W.nsIn K mainGlobals "_law_is_0" = some (some (.ref f_L_is_0)))
    (l_L_is_0 : K.lookup f_L_is_0 = some ⟨oc_L_is_0, od_L_is_0, .func (PySem.W.fnOf "_law_is_0" "_law_is_0" (defArgs s_L_is_0) (defBody s_L_is_0) (defScope s_L_is_0) .none kV_L_is_0 dc_L_is_0 pm_L_is_0 an_L_is_0 cd_L_is_0 ct_L_is_0), sl_L_is_0⟩)
    (c_L_is_0 : PySem.W.codeIn K cd_L_is_0 "_law_is_0" = true)
    (k_L_is_0 : PySem.W.keepIn K (.ref f_L_is_0) = true)
    (a_L_is_1 : PySem.W.nsIn K mainGlobals "_law_is_1" = some (some (.ref f_L_is_1)))
    (l_L_is_1 : K.lookup f_L_is_1 = some ⟨oc_L_is_1, od_L_is_1, .func (PySem.W.fnOf "_law_is_1" "_law_is_1" (defArgs s_L_is_1) (defBody s_L_is_1) (defScope s_L_is_1) .none kV_L_is_1 dc_L_is_1 pm_L_is_1 an_L_is_1 cd_L_is_1 ct_L_is_1), sl_L_is_1⟩)
    (c_L_is_1 : PySem.W.codeIn K cd_L_is_1 "_law_is_1" = true)
    (k_L_is_1 : PySem.W.keepIn K (.ref f_L_is_1) = true)
    (a_L_is_2 : PySem.W.nsIn K mainGlobals "_law_is_2" = some (some (.ref f_L_is_2)))
    (l_L_is_2 : K.lookup f_L_is_2 = some ⟨oc_L_is_2, od_L_is_2, .func (PySem.W.fnOf "_law_is_2" "_law_is_2" (defArgs s_L_is_2) (defBody s_L_is_2) (defScope s_L_is_2) .none kV_L_is_2 dc_L_is_2 pm_L_is_2 an_L_is_2 cd_L_is_2 ct_L_is_2), sl_L_is_2⟩)
    (c_L_is_2 : PySem.W.codeIn K cd_L_is_2 "_law_is_2" = true)
    (k_L_is_2 : PySem.W.keepIn K (.ref f_L_is_2) = true)
    (a_L_is_3 : PySem.W.nsIn K mainGlobals "_law_is_3" = some (some (.ref f_L_is_3)))
    (l_L_is_3 : K.lookup f_L_is_3 = some ⟨oc_L_is_3, od_L_is_3, .func (PySem.W.fnOf "_law_is_3" "_law_is_3" (defArgs s_L_is_3) (defBody s_L_is_3) (defScope s_L_is_3) .none kV_L_is_3 dc_L_is_3 pm_L_is_3 an_L_is_3 cd_L_is_3 ct_L_is_3), sl_L_is_3⟩)
    (c_L_is_3 : PySem.W.codeIn K cd_L_is_3 "_law_is_3" = true)
    (k_L_is_3 : PySem.W.keepIn K (.ref f_L_is_3) = true)
    (a_L_is_4 : PySem.W.nsIn K mainGlobals "_law_is_4" = some (some (.ref f_L_is_4)))
    (l_L_is_4 : K.lookup f_L_is_4 = some ⟨oc_L_is_4, od_L_is_4, .func (PySem.W.fnOf "_law_is_4" "_law_is_4" (defArgs s_L_is_4) (defBody s_L_is_4) (defScope s_L_is_4) .none kV_L_is_4 dc_L_is_4 pm_L_is_4 an_L_is_4 cd_L_is_4 ct_L_is_4), sl_L_is_4⟩)
    (c_L_is_4 : PySem.W.codeIn K cd_L_is_4 "_law_is_4" = true)
    (k_L_is_4 : PySem.W.keepIn K (.ref f_L_is_4) = true)
    (a_L_is_5 : PySem.W.nsIn K mainGlobals "_law_is_5" = some (some (.ref f_L_is_5)))
    (l_L_is_5 : K.lookup f_L_is_5 = some ⟨oc_L_is_5, od_L_is_5, .func (PySem.W.fnOf "_law_is_5" "_law_is_5" (defArgs s_L_is_5) (defBody s_L_is_5) (defScope s_L_is_5) .none kV_L_is_5 dc_L_is_5 pm_L_is_5 an_L_is_5 cd_L_is_5 ct_L_is_5), sl_L_is_5⟩)
    (c_L_is_5 : PySem.W.codeIn K cd_L_is_5 "_law_is_5" = true)
    (k_L_is_5 : PySem.W.keepIn K (.ref f_L_is_5) = true)
    (a_L_is_6 : PySem.W.nsIn K mainGlobals "_law_is_6" = some (some (.ref f_L_is_6)))
    (l_L_is_6 : K.lookup f_L_is_6 = some ⟨oc_L_is_6, od_L_is_6, .func (PySem.W.fnOf "_law_is_6" "_law_is_6" (defArgs s_L_is_6) (defBody s_L_is_6) (defScope s_L_is_6) .none kV_L_is_6 dc_L_is_6 pm_L_is_6 an_L_is_6 cd_L_is_6 ct_L_is_6), sl_L_is_6⟩)
    (c_L_is_6 : PySem.W.codeIn K cd_L_is_6 "_law_is_6" = true)
    (k_L_is_6 : PySem.W.keepIn K (.ref f_L_is_6) = true)
    (a_law : PySem.W.nsIn K mainGlobals "law" = some (some (.ref f_law)))
    (l_law : K.lookup f_law = some ⟨oc_law, od_law, .func (PySem.W.fnOf "law" "law" (defArgs s_law) (defBody s_law) (defScope s_law) .none kV_law dc_law pm_law an_law cd_law ct_law), sl_law⟩)
    (c_law : PySem.W.codeIn K cd_law "law" = true)
    (k_law : PySem.W.keepIn K (.ref f_law) = true)
    (xe_BadTree : PySem.W.excIn K C_BadTree [.type "ValueError", .type "Exception", .type "BaseException", .type "object"] "ValueError.__new__" = true)
    (kc_BadTree : PySem.W.keepIn K (.ref C_BadTree) = true)
    (sb_BadTree : PySem.W.subIn K (.ref C_BadTree) (.type "BaseException") = some true)
    (ty_BadTree : PySem.W.typeIn K (.ref C_BadTree) = some (.type "type"))
    (xe_BadFit : PySem.W.excIn K C_BadFit [.type "ValueError", .type "Exception", .type "BaseException", .type "object"] "ValueError.__new__" = true)
    (kc_BadFit : PySem.W.keepIn K (.ref C_BadFit) = true)
    (sb_BadFit : PySem.W.subIn K (.ref C_BadFit) (.type "BaseException") = some true)
    (ty_BadFit : PySem.W.typeIn K (.ref C_BadFit) = some (.type "type"))
    (xe_BadOpening : PySem.W.excIn K C_BadOpening [.type "ValueError", .type "Exception", .type "BaseException", .type "object"] "ValueError.__new__" = true)
    (kc_BadOpening : PySem.W.keepIn K (.ref C_BadOpening) = true)
    (sb_BadOpening : PySem.W.subIn K (.ref C_BadOpening) (.type "BaseException") = some true)
    (ty_BadOpening : PySem.W.typeIn K (.ref C_BadOpening) = some (.type "type"))
    (xe_BadCall : PySem.W.excIn K C_BadCall [.type "ValueError", .type "Exception", .type "BaseException", .type "object"] "ValueError.__new__" = true)
    (kc_BadCall : PySem.W.keepIn K (.ref C_BadCall) = true)
    (sb_BadCall : PySem.W.subIn K (.ref C_BadCall) (.type "BaseException") = some true)
    (ty_BadCall : PySem.W.typeIn K (.ref C_BadCall) = some (.type "type"))
    (hsb_BadCall : PySem.W.subIn K (.ref C_BadCall) (.type "BaseException") = some true)
    (hhd_BadCall : PySem.W.hasDictIn K C_BadCall = true)
    (hty_BadCall : PySem.W.typeIn K (.ref C_BadCall) = some (.type "type"))
    (hsb_BadFit : PySem.W.subIn K (.ref C_BadFit) (.type "BaseException") = some true)
    (hhd_BadFit : PySem.W.hasDictIn K C_BadFit = true)
    (hty_BadFit : PySem.W.typeIn K (.ref C_BadFit) = some (.type "type"))
    (hsb_BadOpening : PySem.W.subIn K (.ref C_BadOpening) (.type "BaseException") = some true)
    (hhd_BadOpening : PySem.W.hasDictIn K C_BadOpening = true)
    (hty_BadOpening : PySem.W.typeIn K (.ref C_BadOpening) = some (.type "type"))
    (hsb_BadProgram : PySem.W.subIn K (.ref C_BadProgram) (.type "BaseException") = some true)
    (hhd_BadProgram : PySem.W.hasDictIn K C_BadProgram = true)
    (hty_BadProgram : PySem.W.typeIn K (.ref C_BadProgram) = some (.type "type"))
    (hsb_BadSchedule : PySem.W.subIn K (.ref C_BadSchedule) (.type "BaseException") = some true)
    (hhd_BadSchedule : PySem.W.hasDictIn K C_BadSchedule = true)
    (hty_BadSchedule : PySem.W.typeIn K (.ref C_BadSchedule) = some (.type "type"))
    (hsb_BadSource : PySem.W.subIn K (.ref C_BadSource) (.type "BaseException") = some true)
    (hhd_BadSource : PySem.W.hasDictIn K C_BadSource = true)
    (hty_BadSource : PySem.W.typeIn K (.ref C_BadSource) = some (.type "type"))
    (hsb_BadTree : PySem.W.subIn K (.ref C_BadTree) (.type "BaseException") = some true)
    (hhd_BadTree : PySem.W.hasDictIn K C_BadTree = true)
    (hty_BadTree : PySem.W.typeIn K (.ref C_BadTree) = some (.type "type"))
    (hsb_CourtError : PySem.W.subIn K (.ref C_CourtError) (.type "BaseException") = some true)
    (hhd_CourtError : PySem.W.hasDictIn K C_CourtError = true)
    (hty_CourtError : PySem.W.typeIn K (.ref C_CourtError) = some (.type "type"))
    (xfga_BadProgram_reason : PySem.W.findIn K (.ref C_BadProgram) "__getattribute__" = some (some (.builtin "BaseException.__getattribute__")))
    (xfgg_BadProgram_reason : PySem.W.findIn K (.ref C_BadProgram) "__getattr__" = some none)
    (xfex_BadProgram_reason : PySem.W.subIn K (.ref C_BadProgram) (.type "BaseException") = some true)
    (xfhd_BadProgram_reason : PySem.W.hasDictIn K C_BadProgram = true)
    (xfno_BadProgram_reason : PySem.W.findIn K (.ref C_BadProgram) "reason" = some none)
    (xfga_BadSchedule_line : PySem.W.findIn K (.ref C_BadSchedule) "__getattribute__" = some (some (.builtin "BaseException.__getattribute__")))
    (xfgg_BadSchedule_line : PySem.W.findIn K (.ref C_BadSchedule) "__getattr__" = some none)
    (xfex_BadSchedule_line : PySem.W.subIn K (.ref C_BadSchedule) (.type "BaseException") = some true)
    (xfhd_BadSchedule_line : PySem.W.hasDictIn K C_BadSchedule = true)
    (xfno_BadSchedule_line : PySem.W.findIn K (.ref C_BadSchedule) "line" = some none)
    (xfga_BadSource_line : PySem.W.findIn K (.ref C_BadSource) "__getattribute__" = some (some (.builtin "BaseException.__getattribute__")))
    (xfgg_BadSource_line : PySem.W.findIn K (.ref C_BadSource) "__getattr__" = some none)
    (xfex_BadSource_line : PySem.W.subIn K (.ref C_BadSource) (.type "BaseException") = some true)
    (xfhd_BadSource_line : PySem.W.hasDictIn K C_BadSource = true)
    (xfno_BadSource_line : PySem.W.findIn K (.ref C_BadSource) "line" = some none)
    (xfga_BadSource_reason : PySem.W.findIn K (.ref C_BadSource) "__getattribute__" = some (some (.builtin "BaseException.__getattribute__")))
    (xfgg_BadSource_reason : PySem.W.findIn K (.ref C_BadSource) "__getattr__" = some none)
    (xfex_BadSource_reason : PySem.W.subIn K (.ref C_BadSource) (.type "BaseException") = some true)
    (xfhd_BadSource_reason : PySem.W.hasDictIn K C_BadSource = true)
    (xfno_BadSource_reason : PySem.W.findIn K (.ref C_BadSource) "reason" = some none)
    (ex_BadCall_BadCall : PySem.W.subIn K (.ref C_BadCall) (.ref C_BadCall) = some true)
    (ex_BadCall_BadFit : PySem.W.subIn K (.ref C_BadCall) (.ref C_BadFit) = some false)
    (ex_BadCall_BadOpening : PySem.W.subIn K (.ref C_BadCall) (.ref C_BadOpening) = some false)
    (ex_BadCall_BadProgram : PySem.W.subIn K (.ref C_BadCall) (.ref C_BadProgram) = some false)
    (ex_BadCall_BadSchedule : PySem.W.subIn K (.ref C_BadCall) (.ref C_BadSchedule) = some false)
    (ex_BadCall_BadSource : PySem.W.subIn K (.ref C_BadCall) (.ref C_BadSource) = some false)
    (ex_BadCall_BadTree : PySem.W.subIn K (.ref C_BadCall) (.ref C_BadTree) = some false)
    (ex_BadCall_CourtError : PySem.W.subIn K (.ref C_BadCall) (.ref C_CourtError) = some true)
    (ex_BadFit_BadCall : PySem.W.subIn K (.ref C_BadFit) (.ref C_BadCall) = some false)
    (ex_BadFit_BadFit : PySem.W.subIn K (.ref C_BadFit) (.ref C_BadFit) = some true)
    (ex_BadFit_BadOpening : PySem.W.subIn K (.ref C_BadFit) (.ref C_BadOpening) = some false)
    (ex_BadFit_BadProgram : PySem.W.subIn K (.ref C_BadFit) (.ref C_BadProgram) = some false)
    (ex_BadFit_BadSchedule : PySem.W.subIn K (.ref C_BadFit) (.ref C_BadSchedule) = some false)
    (ex_BadFit_BadSource : PySem.W.subIn K (.ref C_BadFit) (.ref C_BadSource) = some false)
    (ex_BadFit_BadTree : PySem.W.subIn K (.ref C_BadFit) (.ref C_BadTree) = some false)
    (ex_BadFit_CourtError : PySem.W.subIn K (.ref C_BadFit) (.ref C_CourtError) = some true)
    (ex_BadOpening_BadCall : PySem.W.subIn K (.ref C_BadOpening) (.ref C_BadCall) = some false)
    (ex_BadOpening_BadFit : PySem.W.subIn K (.ref C_BadOpening) (.ref C_BadFit) = some false)
    (ex_BadOpening_BadOpening : PySem.W.subIn K (.ref C_BadOpening) (.ref C_BadOpening) = some true)
    (ex_BadOpening_BadProgram : PySem.W.subIn K (.ref C_BadOpening) (.ref C_BadProgram) = some false)
    (ex_BadOpening_BadSchedule : PySem.W.subIn K (.ref C_BadOpening) (.ref C_BadSchedule) = some false)
    (ex_BadOpening_BadSource : PySem.W.subIn K (.ref C_BadOpening) (.ref C_BadSource) = some false)
    (ex_BadOpening_BadTree : PySem.W.subIn K (.ref C_BadOpening) (.ref C_BadTree) = some false)
    (ex_BadOpening_CourtError : PySem.W.subIn K (.ref C_BadOpening) (.ref C_CourtError) = some true)
    (ex_BadProgram_BadCall : PySem.W.subIn K (.ref C_BadProgram) (.ref C_BadCall) = some false)
    (ex_BadProgram_BadFit : PySem.W.subIn K (.ref C_BadProgram) (.ref C_BadFit) = some false)
    (ex_BadProgram_BadOpening : PySem.W.subIn K (.ref C_BadProgram) (.ref C_BadOpening) = some false)
    (ex_BadProgram_BadProgram : PySem.W.subIn K (.ref C_BadProgram) (.ref C_BadProgram) = some true)
    (ex_BadProgram_BadSchedule : PySem.W.subIn K (.ref C_BadProgram) (.ref C_BadSchedule) = some false)
    (ex_BadProgram_BadSource : PySem.W.subIn K (.ref C_BadProgram) (.ref C_BadSource) = some false)
    (ex_BadProgram_BadTree : PySem.W.subIn K (.ref C_BadProgram) (.ref C_BadTree) = some false)
    (ex_BadProgram_CourtError : PySem.W.subIn K (.ref C_BadProgram) (.ref C_CourtError) = some true)
    (ex_BadSchedule_BadCall : PySem.W.subIn K (.ref C_BadSchedule) (.ref C_BadCall) = some false)
    (ex_BadSchedule_BadFit : PySem.W.subIn K (.ref C_BadSchedule) (.ref C_BadFit) = some false)
    (ex_BadSchedule_BadOpening : PySem.W.subIn K (.ref C_BadSchedule) (.ref C_BadOpening) = some false)
    (ex_BadSchedule_BadProgram : PySem.W.subIn K (.ref C_BadSchedule) (.ref C_BadProgram) = some false)
    (ex_BadSchedule_BadSchedule : PySem.W.subIn K (.ref C_BadSchedule) (.ref C_BadSchedule) = some true)
    (ex_BadSchedule_BadSource : PySem.W.subIn K (.ref C_BadSchedule) (.ref C_BadSource) = some false)
    (ex_BadSchedule_BadTree : PySem.W.subIn K (.ref C_BadSchedule) (.ref C_BadTree) = some false)
    (ex_BadSchedule_CourtError : PySem.W.subIn K (.ref C_BadSchedule) (.ref C_CourtError) = some true)
    (ex_BadSource_BadCall : PySem.W.subIn K (.ref C_BadSource) (.ref C_BadCall) = some false)
    (ex_BadSource_BadFit : PySem.W.subIn K (.ref C_BadSource) (.ref C_BadFit) = some false)
    (ex_BadSource_BadOpening : PySem.W.subIn K (.ref C_BadSource) (.ref C_BadOpening) = some false)
    (ex_BadSource_BadProgram : PySem.W.subIn K (.ref C_BadSource) (.ref C_BadProgram) = some false)
    (ex_BadSource_BadSchedule : PySem.W.subIn K (.ref C_BadSource) (.ref C_BadSchedule) = some false)
    (ex_BadSource_BadSource : PySem.W.subIn K (.ref C_BadSource) (.ref C_BadSource) = some true)
    (ex_BadSource_BadTree : PySem.W.subIn K (.ref C_BadSource) (.ref C_BadTree) = some false)
    (ex_BadSource_CourtError : PySem.W.subIn K (.ref C_BadSource) (.ref C_CourtError) = some true)
    (ex_BadTree_BadCall : PySem.W.subIn K (.ref C_BadTree) (.ref C_BadCall) = some false)
    (ex_BadTree_BadFit : PySem.W.subIn K (.ref C_BadTree) (.ref C_BadFit) = some false)
    (ex_BadTree_BadOpening : PySem.W.subIn K (.ref C_BadTree) (.ref C_BadOpening) = some false)
    (ex_BadTree_BadProgram : PySem.W.subIn K (.ref C_BadTree) (.ref C_BadProgram) = some false)
    (ex_BadTree_BadSchedule : PySem.W.subIn K (.ref C_BadTree) (.ref C_BadSchedule) = some false)
    (ex_BadTree_BadSource : PySem.W.subIn K (.ref C_BadTree) (.ref C_BadSource) = some false)
    (ex_BadTree_BadTree : PySem.W.subIn K (.ref C_BadTree) (.ref C_BadTree) = some true)
    (ex_BadTree_CourtError : PySem.W.subIn K (.ref C_BadTree) (.ref C_CourtError) = some true)
    (v_MOST_PARAMS : PySem.W.nsIn K mainGlobals "MOST_PARAMS" = some (some (.int 4 t_MOST_PARAMS)))
    (v_MOST_FUNCTIONS : PySem.W.nsIn K mainGlobals "MOST_FUNCTIONS" = some (some (.int 8 t_MOST_FUNCTIONS)))
    (v_MOST_TABLES : PySem.W.nsIn K mainGlobals "MOST_TABLES" = some (some (.int 8 t_MOST_TABLES)))
    (v_MOST_SIZE : PySem.W.nsIn K mainGlobals "MOST_SIZE" = some (some (.int 64 t_MOST_SIZE)))
    (v_MOST_NAME : PySem.W.nsIn K mainGlobals "MOST_NAME" = some (some (.int 12 t_MOST_NAME)))
    (v_MOST_TEXT : PySem.W.nsIn K mainGlobals "MOST_TEXT" = some (some (.int 8000 t_MOST_TEXT)))
    (v_MOST_LATE : PySem.W.nsIn K mainGlobals "MOST_LATE" = some (some (.int 9 t_MOST_LATE)))
    (v_MOST_PLAYERS : PySem.W.nsIn K mainGlobals "MOST_PLAYERS" = some (some (.int 6 t_MOST_PLAYERS)))
    (v_MOST_OPEN : PySem.W.nsIn K mainGlobals "MOST_OPEN" = some (some (.int 16 t_MOST_OPEN)))
    (v_MOST_NESTED : PySem.W.nsIn K mainGlobals "MOST_NESTED" = some (some (.int 12 t_MOST_NESTED)))
    (v_MOST_LEVEL : PySem.W.nsIn K mainGlobals "MOST_LEVEL" = some (some (.int 8 t_MOST_LEVEL)))
    (v_MOST_TOLD : PySem.W.nsIn K mainGlobals "MOST_TOLD" = some (some (.int 16 t_MOST_TOLD)))
    (v_MOST_INPUTS : PySem.W.nsIn K mainGlobals "MOST_INPUTS" = some (some (.int 16 t_MOST_INPUTS)))
    (v_MOST_WORD : PySem.W.nsIn K mainGlobals "MOST_WORD" = some (some (.int 65535 t_MOST_WORD)))
    (v_DEPTH : PySem.W.nsIn K mainGlobals "DEPTH" = some (some (.int 8 t_DEPTH)))
    (b_abs : PySem.W.nsIn K mainGlobals "abs" = some none)
    (b_int : PySem.W.nsIn K mainGlobals "int" = some none)
    (b_len : PySem.W.nsIn K mainGlobals "len" = some none)
    (b_range : PySem.W.nsIn K mainGlobals "range" = some none) :
    ∃ (fd : FuncData) (Cl : Nat → Addr), (∀ (s : Shared) (v : Value), BindsTo s fd ⟨[v], []⟩ [("_law_script", v)]) ∧ ∀ base : Heap, K.In base → base.Ns mainGlobals mg → FnOk l.prog w K mg base CX0 5 fa fd ["_law_script"] (spM K Cl 1 m_law) := by
  have e : f_law = fa := by
    have z := (PySem.W.mg_of X G a_law).symm.trans hfa
    injection z with z
    injection z
  subst e
  let T : Tx K mg (fun n => [0, 0, 0, 0, 0, 0, 0, 0, 0, 0, 0, 0, 0, 0, 0, 0, 0, 0, 0, 0, 0, 0, 0, 0, C_CourtError, C_BadSource, C_BadTree, C_BadProgram, C_BadFit, C_BadOpening, C_BadCall, C_BadSchedule].getD n 0) := {
    a_L_cell := f_L_cell,
    d_L_cell := _,
    F_L_cell := fun_mk (st := s_L_cell) l_L_cell c_L_cell k_L_cell,
    g_L_cell := PySem.W.mg_of X G a_L_cell,
    a_BadSource_init := f_BadSource_init,
    d_BadSource_init := _,
    F_BadSource_init := fun_mk (st := s_BadSource_init) l_BadSource_init c_BadSource_init k_BadSource_init,
    i_BadSource := ⟨PySem.W.mg_of X G aC_BadSource, ⟨⟨_, _, _, _, _, _, _, _, _, _, _, _, _, _, _, xL_BadSource, rfl⟩, xs_a_BadSource, xe_b_BadSource, xt_BadSource, xk_BadSource⟩, a_BadSource_init, xti_BadSource⟩,
    nf_BadSource_line := xnf_BadSource_line,
    nf_BadSource_reason := xnf_BadSource_reason,
    a_BadProgram_init := f_BadProgram_init,
    d_BadProgram_init := _,
    F_BadProgram_init := fun_mk (st := s_BadProgram_init) l_BadProgram_init c_BadProgram_init k_BadProgram_init,
    i_BadProgram := ⟨PySem.W.mg_of X G aC_BadProgram, ⟨⟨_, _, _, _, _, _, _, _, _, _, _, _, _, _, _, xL_BadProgram, rfl⟩, xs_a_BadProgram, xe_b_BadProgram, xt_BadProgram, xk_BadProgram⟩, a_BadProgram_init, xti_BadProgram⟩,
    nf_BadProgram_reason := xnf_BadProgram_reason,
    a_BadSchedule_init := f_BadSchedule_init,
    d_BadSchedule_init := _,
    F_BadSchedule_init := fun_mk (st := s_BadSchedule_init) l_BadSchedule_init c_BadSchedule_init k_BadSchedule_init,
    i_BadSchedule := ⟨PySem.W.mg_of X G aC_BadSchedule, ⟨⟨_, _, _, _, _, _, _, _, _, _, _, _, _, _, _, xL_BadSchedule, rfl⟩, xs_a_BadSchedule, xe_b_BadSchedule, xt_BadSchedule, xk_BadSchedule⟩, a_BadSchedule_init, xti_BadSchedule⟩,
    nf_BadSchedule_line := xnf_BadSchedule_line,
    a_L_raised := f_L_raised,
    d_L_raised := _,
    F_L_raised := fun_mk (st := s_L_raised) l_L_raised c_L_raised k_L_raised,
    g_L_raised := PySem.W.mg_of X G a_L_raised,
    a_L_is_0 := f_L_is_0,
    d_L_is_0 := _,
    F_L_is_0 := fun_mk (st := s_L_is_0) l_L_is_0 c_L_is_0 k_L_is_0,
    g_L_is_0 := PySem.W.mg_of X G a_L_is_0,
    a_L_is_1 := f_L_is_1,
    d_L_is_1 := _,
    F_L_is_1 := fun_mk (st := s_L_is_1) l_L_is_1 c_L_is_1 k_L_is_1,
    g_L_is_1 := PySem.W.mg_of X G a_L_is_1,
    a_L_is_2 := f_L_is_2,
    d_L_is_2 := _,
    F_L_is_2 := fun_mk (st := s_L_is_2) l_L_is_2 c_L_is_2 k_L_is_2,
    g_L_is_2 := PySem.W.mg_of X G a_L_is_2,
    a_L_is_3 := f_L_is_3,
    d_L_is_3 := _,
    F_L_is_3 := fun_mk (st := s_L_is_3) l_L_is_3 c_L_is_3 k_L_is_3,
    g_L_is_3 := PySem.W.mg_of X G a_L_is_3,
    a_L_is_4 := f_L_is_4,
    d_L_is_4 := _,
    F_L_is_4 := fun_mk (st := s_L_is_4) l_L_is_4 c_L_is_4 k_L_is_4,
    g_L_is_4 := PySem.W.mg_of X G a_L_is_4,
    a_L_is_5 := f_L_is_5,
    d_L_is_5 := _,
    F_L_is_5 := fun_mk (st := s_L_is_5) l_L_is_5 c_L_is_5 k_L_is_5,
    g_L_is_5 := PySem.W.mg_of X G a_L_is_5,
    a_L_is_6 := f_L_is_6,
    d_L_is_6 := _,
    F_L_is_6 := fun_mk (st := s_L_is_6) l_L_is_6 c_L_is_6 k_L_is_6,
    g_L_is_6 := PySem.W.mg_of X G a_L_is_6,
    a_law := f_law,
    d_law := _,
    F_law := fun_mk (st := s_law) l_law c_law k_law,
    g_law := PySem.W.mg_of X G a_law,
    g_CourtError := PySem.W.mg_of X G aC_CourtError,
    g_BadSource := PySem.W.mg_of X G aC_BadSource,
    g_BadTree := PySem.W.mg_of X G aC_BadTree,
    x_BadTree := ⟨PySem.W.mg_of X G aC_BadTree, xe_BadTree, kc_BadTree, sb_BadTree, ty_BadTree⟩,
    g_BadProgram := PySem.W.mg_of X G aC_BadProgram,
    g_BadFit := PySem.W.mg_of X G aC_BadFit,
    x_BadFit := ⟨PySem.W.mg_of X G aC_BadFit, xe_BadFit, kc_BadFit, sb_BadFit, ty_BadFit⟩,
    g_BadOpening := PySem.W.mg_of X G aC_BadOpening,
    x_BadOpening := ⟨PySem.W.mg_of X G aC_BadOpening, xe_BadOpening, kc_BadOpening, sb_BadOpening, ty_BadOpening⟩,
    g_BadCall := PySem.W.mg_of X G aC_BadCall,
    x_BadCall := ⟨PySem.W.mg_of X G aC_BadCall, xe_BadCall, kc_BadCall, sb_BadCall, ty_BadCall⟩,
    g_BadSchedule := PySem.W.mg_of X G aC_BadSchedule,
    xf_BadProgram_reason := ⟨xfga_BadProgram_reason, xfgg_BadProgram_reason, xfex_BadProgram_reason, xfhd_BadProgram_reason, xfno_BadProgram_reason⟩,
    xf_BadSchedule_line := ⟨xfga_BadSchedule_line, xfgg_BadSchedule_line, xfex_BadSchedule_line, xfhd_BadSchedule_line, xfno_BadSchedule_line⟩,
    xf_BadSource_line := ⟨xfga_BadSource_line, xfgg_BadSource_line, xfex_BadSource_line, xfhd_BadSource_line, xfno_BadSource_line⟩,
    xf_BadSource_reason := ⟨xfga_BadSource_reason, xfgg_BadSource_reason, xfex_BadSource_reason, xfhd_BadSource_reason, xfno_BadSource_reason⟩,
    e_BadCall_BadCall := PySem.W.exm_ref hsb_BadCall hhd_BadCall hty_BadCall ex_BadCall_BadCall,
    e_BadCall_BadFit := PySem.W.exm_ref hsb_BadFit hhd_BadFit hty_BadFit ex_BadCall_BadFit,
    e_BadCall_BadOpening := PySem.W.exm_ref hsb_BadOpening hhd_BadOpening hty_BadOpening ex_BadCall_BadOpening,
    e_BadCall_BadProgram := PySem.W.exm_ref hsb_BadProgram hhd_BadProgram hty_BadProgram ex_BadCall_BadProgram,
    e_BadCall_BadSchedule := PySem.W.exm_ref hsb_BadSchedule hhd_BadSchedule hty_BadSchedule ex_BadCall_BadSchedule,
    e_BadCall_BadSource := PySem.W.exm_ref hsb_BadSource hhd_BadSource hty_BadSource ex_BadCall_BadSource,
    e_BadCall_BadTree := PySem.W.exm_ref hsb_BadTree hhd_BadTree hty_BadTree ex_BadCall_BadTree,
    e_BadCall_CourtError := PySem.W.exm_ref hsb_CourtError hhd_CourtError hty_CourtError ex_BadCall_CourtError,
    e_BadFit_BadCall := PySem.W.exm_ref hsb_BadCall hhd_BadCall hty_BadCall ex_BadFit_BadCall,
    e_BadFit_BadFit := PySem.W.exm_ref hsb_BadFit hhd_BadFit hty_BadFit ex_BadFit_BadFit,
    e_BadFit_BadOpening := PySem.W.exm_ref hsb_BadOpening hhd_BadOpening hty_BadOpening ex_BadFit_BadOpening,
    e_BadFit_BadProgram := PySem.W.exm_ref hsb_BadProgram hhd_BadProgram hty_BadProgram ex_BadFit_BadProgram,
    e_BadFit_BadSchedule := PySem.W.exm_ref hsb_BadSchedule hhd_BadSchedule hty_BadSchedule ex_BadFit_BadSchedule,
    e_BadFit_BadSource := PySem.W.exm_ref hsb_BadSource hhd_BadSource hty_BadSource ex_BadFit_BadSource,
    e_BadFit_BadTree := PySem.W.exm_ref hsb_BadTree hhd_BadTree hty_BadTree ex_BadFit_BadTree,
    e_BadFit_CourtError := PySem.W.exm_ref hsb_CourtError hhd_CourtError hty_CourtError ex_BadFit_CourtError,
    e_BadOpening_BadCall := PySem.W.exm_ref hsb_BadCall hhd_BadCall hty_BadCall ex_BadOpening_BadCall,
    e_BadOpening_BadFit := PySem.W.exm_ref hsb_BadFit hhd_BadFit hty_BadFit ex_BadOpening_BadFit,
    e_BadOpening_BadOpening := PySem.W.exm_ref hsb_BadOpening hhd_BadOpening hty_BadOpening ex_BadOpening_BadOpening,
    e_BadOpening_BadProgram := PySem.W.exm_ref hsb_BadProgram hhd_BadProgram hty_BadProgram ex_BadOpening_BadProgram,
    e_BadOpening_BadSchedule := PySem.W.exm_ref hsb_BadSchedule hhd_BadSchedule hty_BadSchedule ex_BadOpening_BadSchedule,
    e_BadOpening_BadSource := PySem.W.exm_ref hsb_BadSource hhd_BadSource hty_BadSource ex_BadOpening_BadSource,
    e_BadOpening_BadTree := PySem.W.exm_ref hsb_BadTree hhd_BadTree hty_BadTree ex_BadOpening_BadTree,
    e_BadOpening_CourtError := PySem.W.exm_ref hsb_CourtError hhd_CourtError hty_CourtError ex_BadOpening_CourtError,
    e_BadProgram_BadCall := PySem.W.exm_ref hsb_BadCall hhd_BadCall hty_BadCall ex_BadProgram_BadCall,
    e_BadProgram_BadFit := PySem.W.exm_ref hsb_BadFit hhd_BadFit hty_BadFit ex_BadProgram_BadFit,
    e_BadProgram_BadOpening := PySem.W.exm_ref hsb_BadOpening hhd_BadOpening hty_BadOpening ex_BadProgram_BadOpening,
    e_BadProgram_BadProgram := PySem.W.exm_ref hsb_BadProgram hhd_BadProgram hty_BadProgram ex_BadProgram_BadProgram,
    e_BadProgram_BadSchedule := PySem.W.exm_ref hsb_BadSchedule hhd_BadSchedule hty_BadSchedule ex_BadProgram_BadSchedule,
    e_BadProgram_BadSource := PySem.W.exm_ref hsb_BadSource hhd_BadSource hty_BadSource ex_BadProgram_BadSource,
    e_BadProgram_BadTree := PySem.W.exm_ref hsb_BadTree hhd_BadTree hty_BadTree ex_BadProgram_BadTree,
    e_BadProgram_CourtError := PySem.W.exm_ref hsb_CourtError hhd_CourtError hty_CourtError ex_BadProgram_CourtError,
    e_BadSchedule_BadCall := PySem.W.exm_ref hsb_BadCall hhd_BadCall hty_BadCall ex_BadSchedule_BadCall,
    e_BadSchedule_BadFit := PySem.W.exm_ref hsb_BadFit hhd_BadFit hty_BadFit ex_BadSchedule_BadFit,
    e_BadSchedule_BadOpening := PySem.W.exm_ref hsb_BadOpening hhd_BadOpening hty_BadOpening ex_BadSchedule_BadOpening,
    e_BadSchedule_BadProgram := PySem.W.exm_ref hsb_BadProgram hhd_BadProgram hty_BadProgram ex_BadSchedule_BadProgram,
    e_BadSchedule_BadSchedule := PySem.W.exm_ref hsb_BadSchedule hhd_BadSchedule hty_BadSchedule ex_BadSchedule_BadSchedule,
    e_BadSchedule_BadSource := PySem.W.exm_ref hsb_BadSource hhd_BadSource hty_BadSource ex_BadSchedule_BadSource,
    e_BadSchedule_BadTree := PySem.W.exm_ref hsb_BadTree hhd_BadTree hty_BadTree ex_BadSchedule_BadTree,
    e_BadSchedule_CourtError := PySem.W.exm_ref hsb_CourtError hhd_CourtError hty_CourtError ex_BadSchedule_CourtError,
    e_BadSource_BadCall := PySem.W.exm_ref hsb_BadCall hhd_BadCall hty_BadCall ex_BadSource_BadCall,
    e_BadSource_BadFit := PySem.W.exm_ref hsb_BadFit hhd_BadFit hty_BadFit ex_BadSource_BadFit,
    e_BadSource_BadOpening := PySem.W.exm_ref hsb_BadOpening hhd_BadOpening hty_BadOpening ex_BadSource_BadOpening,
    e_BadSource_BadProgram := PySem.W.exm_ref hsb_BadProgram hhd_BadProgram hty_BadProgram ex_BadSource_BadProgram,
    e_BadSource_BadSchedule := PySem.W.exm_ref hsb_BadSchedule hhd_BadSchedule hty_BadSchedule ex_BadSource_BadSchedule,
    e_BadSource_BadSource := PySem.W.exm_ref hsb_BadSource hhd_BadSource hty_BadSource ex_BadSource_BadSource,
    e_BadSource_BadTree := PySem.W.exm_ref hsb_BadTree hhd_BadTree hty_BadTree ex_BadSource_BadTree,
    e_BadSource_CourtError := PySem.W.exm_ref hsb_CourtError hhd_CourtError hty_CourtError ex_BadSource_CourtError,
    e_BadTree_BadCall := PySem.W.exm_ref hsb_BadCall hhd_BadCall hty_BadCall ex_BadTree_BadCall,
    e_BadTree_BadFit := PySem.W.exm_ref hsb_BadFit hhd_BadFit hty_BadFit ex_BadTree_BadFit,
    e_BadTree_BadOpening := PySem.W.exm_ref hsb_BadOpening hhd_BadOpening hty_BadOpening ex_BadTree_BadOpening,
    e_BadTree_BadProgram := PySem.W.exm_ref hsb_BadProgram hhd_BadProgram hty_BadProgram ex_BadTree_BadProgram,
    e_BadTree_BadSchedule := PySem.W.exm_ref hsb_BadSchedule hhd_BadSchedule hty_BadSchedule ex_BadTree_BadSchedule,
    e_BadTree_BadSource := PySem.W.exm_ref hsb_BadSource hhd_BadSource hty_BadSource ex_BadTree_BadSource,
    e_BadTree_BadTree := PySem.W.exm_ref hsb_BadTree hhd_BadTree hty_BadTree ex_BadTree_BadTree,
    e_BadTree_CourtError := PySem.W.exm_ref hsb_CourtError hhd_CourtError hty_CourtError ex_BadTree_CourtError,
    c_MOST_PARAMS := ⟨_, .int 4, PySem.W.mg_of X G v_MOST_PARAMS, ⟨_, rfl⟩, fun _ _ => .int _⟩,
    c_MOST_FUNCTIONS := ⟨_, .int 8, PySem.W.mg_of X G v_MOST_FUNCTIONS, ⟨_, rfl⟩, fun _ _ => .int _⟩,
    c_MOST_TABLES := ⟨_, .int 8, PySem.W.mg_of X G v_MOST_TABLES, ⟨_, rfl⟩, fun _ _ => .int _⟩,
    c_MOST_SIZE := ⟨_, .int 64, PySem.W.mg_of X G v_MOST_SIZE, ⟨_, rfl⟩, fun _ _ => .int _⟩,
    c_MOST_NAME := ⟨_, .int 12, PySem.W.mg_of X G v_MOST_NAME, ⟨_, rfl⟩, fun _ _ => .int _⟩,
    c_MOST_TEXT := ⟨_, .int 8000, PySem.W.mg_of X G v_MOST_TEXT, ⟨_, rfl⟩, fun _ _ => .int _⟩,
    c_MOST_LATE := ⟨_, .int 9, PySem.W.mg_of X G v_MOST_LATE, ⟨_, rfl⟩, fun _ _ => .int _⟩,
    c_MOST_PLAYERS := ⟨_, .int 6, PySem.W.mg_of X G v_MOST_PLAYERS, ⟨_, rfl⟩, fun _ _ => .int _⟩,
    c_MOST_OPEN := ⟨_, .int 16, PySem.W.mg_of X G v_MOST_OPEN, ⟨_, rfl⟩, fun _ _ => .int _⟩,
    c_MOST_NESTED := ⟨_, .int 12, PySem.W.mg_of X G v_MOST_NESTED, ⟨_, rfl⟩, fun _ _ => .int _⟩,
    c_MOST_LEVEL := ⟨_, .int 8, PySem.W.mg_of X G v_MOST_LEVEL, ⟨_, rfl⟩, fun _ _ => .int _⟩,
    c_MOST_TOLD := ⟨_, .int 16, PySem.W.mg_of X G v_MOST_TOLD, ⟨_, rfl⟩, fun _ _ => .int _⟩,
    c_MOST_INPUTS := ⟨_, .int 16, PySem.W.mg_of X G v_MOST_INPUTS, ⟨_, rfl⟩, fun _ _ => .int _⟩,
    c_MOST_WORD := ⟨_, .int 65535, PySem.W.mg_of X G v_MOST_WORD, ⟨_, rfl⟩, fun _ _ => .int _⟩,
    c_DEPTH := ⟨_, .int 8, PySem.W.mg_of X G v_DEPTH, ⟨_, rfl⟩, fun _ _ => .int _⟩,
    b_abs := PySem.W.mg_none_of X G b_abs,
    b_int := PySem.W.mg_none_of X G b_int,
    b_len := PySem.W.mg_none_of X G b_len,
    b_range := PySem.W.mg_none_of X G b_range }
  exact ⟨_, _, fun s v => .of_eq rfl, fun base _ _ => ok_law T⟩
theorem walk {l : PySem.W.OpenLaw} {q : Program} {loose : List Str} {XP : (Str → Option Value) → Heap → Prop} {YP : World → Heap → Prop} {d : DefRec} {K : Params → PySem.W.Frag} (hn : l.most = some 63) (hdf : d.params.defaults = [])
    (hY : ∀ (w : World) (h : Heap), YP w h → (K w.params).In h)
    (hlaw : ∀ ns : List Int, ns.length ≤ 63 → (∀ z ∈ ns, Builtin.Int.intBits z ≤ 1048576) → ∃ st, m_law [.xst (ns.map W.int)] [] = .ok (.bl true) st)
    (F : ∀ (w : World) (mg : Str → Option Value) (fa : Addr) (h : Heap), (K w.params).In h → h.Ns mainGlobals mg → mg d.name = some (.ref fa) →
      ∃ (fd : FuncData) (Cl : Nat → Addr), (∀ (s : Shared) (u : Value), BindsTo s fd ⟨[u], []⟩ [("_law_script", u)]) ∧ ∀ base : Heap, (K w.params).In base → base.Ns mainGlobals mg → FnOk l.prog w (K w.params) mg base CX0 5 fa fd ["_law_script"] (spM (K w.params) Cl 1 m_law)) :
    PySem.W.WalkO q loose XP YP l.row.toRowW d [] (fun f vs => PySem.call f vs) :=
  L2.walk_ofB (n := 63) (k := 5) (x := "_law_script") (CX := fun _ => CX0) (sp := fun w vs H Q E => ∀ Cl, spM (K w.params) Cl 1 m_law vs H Q E) hn (by decide) hdf ⟨rfl, by decide, by decide⟩ hY
    (fun w mg fa h X G hm => by
      obtain ⟨fd, Cl, b, f⟩ := F w mg fa h X G hm
      exact ⟨fd, b, fun base h1 h2 => (f base h1 h2).imp fun vs H Q E q => q Cl⟩)
    (fun w H a ns hl hb hO hS Cl => law_sp hO hS (hlaw ns hl hb)) fun _ _ _ _ _ z => z
end Gn

open PySem PySem.W PyProof.Rows
set_option maxRecDepth 100000 in
set_option maxHeartbeats 0 in
theorem PySem.Challenge.cw_onestepcourt_k00_errors_and_limits_holds : PySem.Challenge.rw_onestepcourt_k00_errors_and_limits.Holds := by
  w_on; o_law; k_head; (case hw => w_witness2)
  k_fill
  refine Gn.walk (l := PySem.Challenge.rw_onestepcourt_k00_errors_and_limits) rfl rfl (fun w h Y => PySem.W.kIn_of Y) Gn.law_true ?F
  case F =>
    intro w mg fa h KX G hmg
    refine' Gn.all_mk KX G hmg ?aC_CourtError ?aC_BadSource ?aC_BadTree ?aC_BadProgram ?aC_BadFit ?aC_BadOpening ?aC_BadCall ?aC_BadSchedule ?a_L_cell ?l_L_cell ?c_L_cell ?k_L_cell ?a_BadSource_init ?l_BadSource_init ?c_BadSource_init ?k_BadSource_init ?xL_BadSource ?xs_a_BadSource ?xe_b_BadSource ?xt_BadSource ?xk_BadSource ?xti_BadSource ?xnf_BadSource_line ?xnf_BadSource_reason ?a_BadProgram_init ?l_BadProgram_init ?c_BadProgram_init ?k_BadProgram_init ?xL_BadProgram ?xs_a_BadProgram ?xe_b_BadProgram ?xt_BadProgram ?xk_BadProgram ?xti_BadProgram ?xnf_BadProgram_reason ?a_BadSchedule_init ?l_BadSchedule_init ?c_BadSchedule_init ?k_BadSchedule_init ?xL_BadSchedule ?xs_a_BadSchedule ?xe_b_BadSchedule ?xt_BadSchedule ?xk_BadSchedule ?xti_BadSchedule ?xnf_BadSchedule_line ?a_L_raised ?l_L_raised ?c_L_raised ?k_L_raised ?a_L_is_0 ?l_L_is_0 ?c_L_is_0 ?k_L_is_0 ?a_L_is_1 ?l_L_is_1 ?c_L_is_1 ?k_L_is_1 ?a_L_is_2 ?l_L_is_2 ?c_L_is_2 ?k_L_is_2 ?a_L_is_3 ?l_L_is_3 ?c_L_is_3 ?k_L_is_3 ?a_L_is_4 ?l_L_is_4 ?c_L_is_4 ?k_L_is_4 ?a_L_is_5 ?l_L_is_5 ?c_L_is_5 ?k_L_is_5 ?a_L_is_6 ?l_L_is_6 ?c_L_is_6 ?k_L_is_6 ?a_law ?l_law ?c_law ?k_law ?xe_BadTree ?kc_BadTree ?sb_BadTree ?ty_BadTree ?xe_BadFit ?kc_BadFit ?sb_BadFit ?ty_BadFit ?xe_BadOpening ?kc_BadOpening ?sb_BadOpening ?ty_BadOpening ?xe_BadCall ?kc_BadCall ?sb_BadCall ?ty_BadCall ?hsb_BadCall ?hhd_BadCall ?hty_BadCall ?hsb_BadFit ?hhd_BadFit ?hty_BadFit ?hsb_BadOpening ?hhd_BadOpening ?hty_BadOpening ?hsb_BadProgram ?hhd_BadProgram ?hty_BadProgram ?hsb_BadSchedule ?hhd_BadSchedule ?hty_BadSchedule ?hsb_BadSource ?hhd_BadSource ?hty_BadSource ?hsb_BadTree ?hhd_BadTree ?hty_BadTree ?hsb_CourtError ?hhd_CourtError ?hty_CourtError ?xfga_BadProgram_reason ?xfgg_BadProgram_reason ?xfex_BadProgram_reason ?xfhd_BadProgram_reason ?xfno_BadProgram_reason ?xfga_BadSchedule_line ?xfgg_BadSchedule_line ?xfex_BadSchedule_line ?xfhd_BadSchedule_line ?xfno_BadSchedule_line ?xfga_BadSource_line ?xfgg_BadSource_line ?xfex_BadSource_line ?xfhd_BadSource_line ?xfno_BadSource_line ?xfga_BadSource_reason ?xfgg_BadSource_reason ?xfex_BadSource_reason ?xfhd_BadSource_reason ?xfno_BadSource_reason ?ex_BadCall_BadCall ?ex_BadCall_BadFit ?ex_BadCall_BadOpening ?ex_BadCall_BadProgram ?ex_BadCall_BadSchedule ?ex_BadCall_BadSource ?ex_BadCall_BadTree ?ex_BadCall_CourtError ?ex_BadFit_BadCall ?ex_BadFit_BadFit ?ex_BadFit_BadOpening ?ex_BadFit_BadProgram ?ex_BadFit_BadSchedule ?ex_BadFit_BadSource ?ex_BadFit_BadTree ?ex_BadFit_CourtError ?ex_BadOpening_BadCall ?ex_BadOpening_BadFit ?ex_BadOpening_BadOpening ?ex_BadOpening_BadProgram ?ex_BadOpening_BadSchedule ?ex_BadOpening_BadSource ?ex_BadOpening_BadTree ?ex_BadOpening_CourtError ?ex_BadProgram_BadCall ?ex_BadProgram_BadFit ?ex_BadProgram_BadOpening ?ex_BadProgram_BadProgram ?ex_BadProgram_BadSchedule ?ex_BadProgram_BadSource ?ex_BadProgram_BadTree ?ex_BadProgram_CourtError ?ex_BadSchedule_BadCall ?ex_BadSchedule_BadFit ?ex_BadSchedule_BadOpening ?ex_BadSchedule_BadProgram ?ex_BadSchedule_BadSchedule ?ex_BadSchedule_BadSource ?ex_BadSchedule_BadTree ?ex_BadSchedule_CourtError ?ex_BadSource_BadCall ?ex_BadSource_BadFit ?ex_BadSource_BadOpening ?ex_BadSource_BadProgram ?ex_BadSource_BadSchedule ?ex_BadSource_BadSource ?ex_BadSource_BadTree ?ex_BadSource_CourtError ?ex_BadTree_BadCall ?ex_BadTree_BadFit ?ex_BadTree_BadOpening ?ex_BadTree_BadProgram ?ex_BadTree_BadSchedule ?ex_BadTree_BadSource ?ex_BadTree_BadTree ?ex_BadTree_CourtError ?v_MOST_PARAMS ?v_MOST_FUNCTIONS ?v_MOST_TABLES ?v_MOST_SIZE ?v_MOST_NAME ?v_MOST_TEXT ?v_MOST_LATE ?v_MOST_PLAYERS ?v_MOST_OPEN ?v_MOST_NESTED ?v_MOST_LEVEL ?v_MOST_TOLD ?v_MOST_INPUTS ?v_MOST_WORD ?v_DEPTH ?b_abs ?b_int ?b_len ?b_range
    (case aC_CourtError => k_is); (case aC_BadSource => k_is); (case aC_BadTree => k_is); (case aC_BadProgram => k_is); (case aC_BadFit => k_is); (case aC_BadOpening => k_is)
    (case aC_BadCall => k_is); (case aC_BadSchedule => k_is); (case a_L_cell => k_is); (case l_L_cell => k_is); (case c_L_cell => k_is); (case k_L_cell => k_is)
    (case a_BadSource_init => k_is); (case l_BadSource_init => k_is); (case c_BadSource_init => k_is); (case k_BadSource_init => k_is); (case xL_BadSource => k_is); (case xs_a_BadSource => k_is)
    (case xe_b_BadSource => k_is); (case xt_BadSource => k_is); (case xk_BadSource => k_is); (case xti_BadSource => k_is); (case xnf_BadSource_line => k_is); (case xnf_BadSource_reason => k_is)
    (case a_BadProgram_init => k_is); (case l_BadProgram_init => k_is); (case c_BadProgram_init => k_is); (case k_BadProgram_init => k_is); (case xL_BadProgram => k_is); (case xs_a_BadProgram => k_is)
    (case xe_b_BadProgram => k_is); (case xt_BadProgram => k_is); (case xk_BadProgram => k_is); (case xti_BadProgram => k_is); (case xnf_BadProgram_reason => k_is); (case a_BadSchedule_init => k_is)
    (case l_BadSchedule_init => k_is); (case c_BadSchedule_init => k_is); (case k_BadSchedule_init => k_is); (case xL_BadSchedule => k_is); (case xs_a_BadSchedule => k_is); (case xe_b_BadSchedule => k_is)
    (case xt_BadSchedule => k_is); (case xk_BadSchedule => k_is); (case xti_BadSchedule => k_is); (case xnf_BadSchedule_line => k_is); (case a_L_raised => k_is); (case l_L_raised => k_is)
    (case c_L_raised => k_is); (case k_L_raised => k_is); (case a_L_is_0 => k_is); (case l_L_is_0 => k_is); (case c_L_is_0 => k_is); (case k_L_is_0 => k_is)
    (case a_L_is_1 => k_is); (case l_L_is_1 => k_is); (case c_L_is_1 => k_is); (case k_L_is_1 => k_is); (case a_L_is_2 => k_is); (case l_L_is_2 => k_is)
    (case c_L_is_2 => k_is); (case k_L_is_2 => k_is); (case a_L_is_3 => k_is); (case l_L_is_3 => k_is); (case c_L_is_3 => k_is); (case k_L_is_3 => k_is)
    (case a_L_is_4 => k_is); (case l_L_is_4 => k_is); (case c_L_is_4 => k_is); (case k_L_is_4 => k_is); (case a_L_is_5 => k_is); (case l_L_is_5 => k_is)
    (case c_L_is_5 => k_is); (case k_L_is_5 => k_is); (case a_L_is_6 => k_is); (case l_L_is_6 => k_is); (case c_L_is_6 => k_is); (case k_L_is_6 => k_is)
    (case a_law => k_is); (case l_law => k_is); (case c_law => k_is); (case k_law => k_is); (case xe_BadTree => k_exc); (case kc_BadTree => k_is)
    (case sb_BadTree => k_is); (case ty_BadTree => k_is); (case xe_BadFit => k_exc); (case kc_BadFit => k_is); (case sb_BadFit => k_is); (case ty_BadFit => k_is)
    (case xe_BadOpening => k_exc); (case kc_BadOpening => k_is); (case sb_BadOpening => k_is); (case ty_BadOpening => k_is); (case xe_BadCall => k_exc); (case kc_BadCall => k_is)
    (case sb_BadCall => k_is); (case ty_BadCall => k_is); (case hsb_BadCall => k_is); (case hhd_BadCall => k_is); (case hty_BadCall => k_is); (case hsb_BadFit => k_is)
    (case hhd_BadFit => k_is); (case hty_BadFit => k_is); (case hsb_BadOpening => k_is); (case hhd_BadOpening => k_is); (case hty_BadOpening => k_is); (case hsb_BadProgram => k_is)
    (case hhd_BadProgram => k_is); (case hty_BadProgram => k_is); (case hsb_BadSchedule => k_is); (case hhd_BadSchedule => k_is); (case hty_BadSchedule => k_is); (case hsb_BadSource => k_is)
    (case hhd_BadSource => k_is); (case hty_BadSource => k_is); (case hsb_BadTree => k_is); (case hhd_BadTree => k_is); (case hty_BadTree => k_is); (case hsb_CourtError => k_is)
    (case hhd_CourtError => k_is); (case hty_CourtError => k_is); (case xfga_BadProgram_reason => k_is); (case xfgg_BadProgram_reason => k_is); (case xfex_BadProgram_reason => k_is); (case xfhd_BadProgram_reason => k_is)
    (case xfno_BadProgram_reason => k_is); (case xfga_BadSchedule_line => k_is); (case xfgg_BadSchedule_line => k_is); (case xfex_BadSchedule_line => k_is); (case xfhd_BadSchedule_line => k_is); (case xfno_BadSchedule_line => k_is)
    (case xfga_BadSource_line => k_is); (case xfgg_BadSource_line => k_is); (case xfex_BadSource_line => k_is); (case xfhd_BadSource_line => k_is); (case xfno_BadSource_line => k_is); (case xfga_BadSource_reason => k_is)
    (case xfgg_BadSource_reason => k_is); (case xfex_BadSource_reason => k_is); (case xfhd_BadSource_reason => k_is); (case xfno_BadSource_reason => k_is); (case ex_BadCall_BadCall => k_is); (case ex_BadCall_BadFit => k_is)
    (case ex_BadCall_BadOpening => k_is); (case ex_BadCall_BadProgram => k_is); (case ex_BadCall_BadSchedule => k_is); (case ex_BadCall_BadSource => k_is); (case ex_BadCall_BadTree => k_is); (case ex_BadCall_CourtError => k_is)
    (case ex_BadFit_BadCall => k_is); (case ex_BadFit_BadFit => k_is); (case ex_BadFit_BadOpening => k_is); (case ex_BadFit_BadProgram => k_is); (case ex_BadFit_BadSchedule => k_is); (case ex_BadFit_BadSource => k_is)
    (case ex_BadFit_BadTree => k_is); (case ex_BadFit_CourtError => k_is); (case ex_BadOpening_BadCall => k_is); (case ex_BadOpening_BadFit => k_is); (case ex_BadOpening_BadOpening => k_is); (case ex_BadOpening_BadProgram => k_is)
    (case ex_BadOpening_BadSchedule => k_is); (case ex_BadOpening_BadSource => k_is); (case ex_BadOpening_BadTree => k_is); (case ex_BadOpening_CourtError => k_is); (case ex_BadProgram_BadCall => k_is); (case ex_BadProgram_BadFit => k_is)
    (case ex_BadProgram_BadOpening => k_is); (case ex_BadProgram_BadProgram => k_is); (case ex_BadProgram_BadSchedule => k_is); (case ex_BadProgram_BadSource => k_is); (case ex_BadProgram_BadTree => k_is); (case ex_BadProgram_CourtError => k_is)
    (case ex_BadSchedule_BadCall => k_is); (case ex_BadSchedule_BadFit => k_is); (case ex_BadSchedule_BadOpening => k_is); (case ex_BadSchedule_BadProgram => k_is); (case ex_BadSchedule_BadSchedule => k_is); (case ex_BadSchedule_BadSource => k_is)
    (case ex_BadSchedule_BadTree => k_is); (case ex_BadSchedule_CourtError => k_is); (case ex_BadSource_BadCall => k_is); (case ex_BadSource_BadFit => k_is); (case ex_BadSource_BadOpening => k_is); (case ex_BadSource_BadProgram => k_is)
    (case ex_BadSource_BadSchedule => k_is); (case ex_BadSource_BadSource => k_is); (case ex_BadSource_BadTree => k_is); (case ex_BadSource_CourtError => k_is); (case ex_BadTree_BadCall => k_is); (case ex_BadTree_BadFit => k_is)
    (case ex_BadTree_BadOpening => k_is); (case ex_BadTree_BadProgram => k_is); (case ex_BadTree_BadSchedule => k_is); (case ex_BadTree_BadSource => k_is); (case ex_BadTree_BadTree => k_is); (case ex_BadTree_CourtError => k_is)
    (case v_MOST_PARAMS => k_is); (case v_MOST_FUNCTIONS => k_is); (case v_MOST_TABLES => k_is); (case v_MOST_SIZE => k_is); (case v_MOST_NAME => k_is); (case v_MOST_TEXT => k_is)
    (case v_MOST_LATE => k_is); (case v_MOST_PLAYERS => k_is); (case v_MOST_OPEN => k_is); (case v_MOST_NESTED => k_is); (case v_MOST_LEVEL => k_is); (case v_MOST_TOLD => k_is)
    (case v_MOST_INPUTS => k_is); (case v_MOST_WORD => k_is); (case v_DEPTH => k_is); (case b_abs => k_is); (case b_int => k_is); (case b_len => k_is)
    (case b_range => k_is)
#print axioms PySem.Challenge.cw_onestepcourt_k00_errors_and_limits_holds
