import PyProof.Rows.All
import Wide.All
import OpenK.AllK
import Wide.FinOn
import HandS.ForMost
import HandS.Wide
import HandS.WideBits
import HandS.EndBits
import HandS.Deep
import HandS.Flow
import HandS.Conv
import HandS.TupAny
import HandS.TupMul
import HandS.IsInst
import HandS.Style
import HandS.Walk
import HandS.ForExc
import PyProof.Rows.ChunkLeaf
import HandS.Strs
import KE.GoesMore
import PyProof.DictMoreH
import HandS.Iter
import KE.KDictWalk
import HandS.Small
import HandS.TryOnly
import HandS.ExcIs
import HandS.ExcInit
import KE.KExcIs
import KE.KDictCopyH
import HandS.More
import HandS.Zip
import PySem.Challenge.RW_onestepcourt_k34_checked_trees
set_option Elab.async false
set_option linter.all false
set_option maxRecDepth 100000
set_option maxHeartbeats 4000000
/-! The mirror layer, part A: values, the store, how they stand in a heap. -/
namespace Mi
open PySem L2

inductive W where
  | non | bl (b : Bool) | int (i : Int) | str (x : Str) | tup (xs : List W) | lst (xs : List W) | xst (xs : List W) | ref (i : Nat)
abbrev Fl := List (Str × W)
inductive Ob where
  | lst (xs : List W) | dK (kvs : List (Key × W)) | dT (kvs : List (List Key × W)) | ins (c : Nat) (fs : Fl) | dead
abbrev Sto := List Ob
abbrev Slo := List (Option W)
/-- where the store's objects stand; addresses that only a comprehension in progress may change -/
structure Bt where
  l : List (Option Addr)
  pr : List Addr

/-- what an evaluation comes to -/
inductive Out (α : Type) where
  | ok (a : α) (st : Sto) | exc (c : Nat) (fs : Fl) (st : Sto) | stuck
@[simp] def Out.bind {α β : Type} : Out α → (α → Sto → Out β) → Out β
  | .ok a st, f => f a st
  | .exc c fs st, _ => .exc c fs st
  | .stuck, _ => .stuck
/-- what a statement comes to -/
inductive SO where
  | nx (s : Slo) (st : Sto) | rt (w : W) (st : Sto) | bk (s : Slo) (st : Sto) | ct (s : Slo) (st : Sto) | exc (c : Nat) (fs : Fl) (st : Sto) | stuck
abbrev ME := Slo → Sto → Out W
abbrev MA := Slo → Sto → Out (List W)
abbrev MT := Slo → Sto → Out Bool
abbrev MS := Slo → Sto → SO
abbrev MF := List W → Sto → Out W

def NotIn (β : Bt) (p : Addr) : Prop := (∀ i : Nat, β.l[i]? ≠ some (some p)) ∧ p ∉ β.pr

/-- a list of the module's own top -/
def KL (K : PySem.W.Frag) (a : Addr) (xs : List V) : Prop :=
  ∃ (o : Obj) (its : Array Value) (n : Nat), K.lookup a = some o ∧ o.cls = .type "list" ∧ o.dict = none ∧ o.data = .seq its n ∧ its.size ≤ sizeLine ∧ Vals xs its.toList

mutual
inductive RV (K : PySem.W.Frag) (β : Bt) (H : Hp) : W → V → Prop
  | non : RV K β H .non .non
  | bl (b : Bool) : RV K β H (.bl b) (.bl b)
  | int (i : Int) : RV K β H (.int i) (.int i)
  | str (x : Str) : RV K β H (.str x) (.str x)
  | tup {p : Addr} {ws : List W} {vs : List V} : SqT K H p vs → RVs K β H ws vs → RV K β H (.tup ws) (.ref p)
  | lst {p : Addr} {ws : List W} {vs : List V} : H p = some (.lst vs) → NotIn β p → RVs K β H ws vs → RV K β H (.lst ws) (.ref p)
  | xst {p : Addr} {ws : List W} {vs : List V} : (KL K p vs ∨ ∃ o, H p = some (.frz o (.lst vs))) → RVs K β H ws vs → RV K β H (.xst ws) (.ref p)
  | ref {i : Nat} {a : Addr} : β.l[i]? = some (some a) → RV K β H (.ref i) (.ref a)
  | dead {i : Nat} {v : V} : β.l[i]? = some none → RV K β H (.ref i) v
inductive RVs (K : PySem.W.Frag) (β : Bt) (H : Hp) : List W → List V → Prop
  | nil : RVs K β H [] []
  | cons {w : W} {ws : List W} {v : V} {vs : List V} : RV K β H w v → RVs K β H ws vs → RVs K β H (w :: ws) (v :: vs)
end

structure Ext (K : PySem.W.Frag) (β : Bt) (H : Hp) (β' : Bt) (H' : Hp) : Prop where
  tup : ∀ p vs, SqT K H p vs → SqT K H' p vs
  lst : ∀ p vs, H p = some (.lst vs) → NotIn β p → H' p = some (.lst vs) ∧ NotIn β' p
  frz : ∀ p o u, H p = some (.frz o u) → H' p = some (.frz o u)
  live : ∀ (i : Nat) (o : Option Addr), β.l[i]? = some o → β'.l[i]? = some o ∨ β'.l[i]? = some none
  prot : ∀ p ∈ β.pr, ∀ o, H p = some o → p ∈ β'.pr ∧ H' p = some o
theorem Ext.refl (K : PySem.W.Frag) (β : Bt) (H : Hp) : Ext K β H β H := ⟨fun _ _ h => h, fun _ _ h n => ⟨h, n⟩, fun _ _ _ h => h, fun _ _ h => .inl h, fun _ hp _ h => ⟨hp, h⟩⟩
theorem Ext.trans {K : PySem.W.Frag} {β β1 β2 : Bt} {H H1 H2 : Hp} (a : Ext K β H β1 H1) (b : Ext K β1 H1 β2 H2) : Ext K β H β2 H2 where
  tup := fun p vs h => b.tup p vs (a.tup p vs h)
  lst := fun p vs h n => by
    obtain ⟨h1, n1⟩ := a.lst p vs h n
    exact b.lst p vs h1 n1
  frz := fun p o u h => b.frz p o u (a.frz p o u h)
  live := fun i o h => by
    rcases a.live i o h with h1 | h1
    · exact b.live i o h1
    · rcases b.live i _ h1 with h2 | h2
      · exact .inr h2
      · exact .inr h2
  prot := fun p hp o h => by
    obtain ⟨h1, h2⟩ := a.prot p hp o h
    exact b.prot p h1 o h2

section
variable {K : PySem.W.Frag} {β β' : Bt} {H H' : Hp}
mutual
theorem RV.ext (e : Ext K β H β' H') : ∀ {w : W} {v : V}, RV K β H w v → RV K β' H' w v
  | _, _, .non => .non
  | _, _, .bl b => .bl b
  | _, _, .int i => .int i
  | _, _, .str x => .str x
  | _, _, .tup h r => .tup (e.tup _ _ h) (RVs.ext e r)
  | _, _, .lst h n r => .lst (e.lst _ _ h n).1 (e.lst _ _ h n).2 (RVs.ext e r)
  | _, _, .xst h r => .xst (h.imp (fun x => x) fun ⟨o, x⟩ => ⟨o, e.frz _ _ _ x⟩) (RVs.ext e r)
  | _, _, .ref h => (e.live _ _ h).elim (fun x => .ref x) fun x => .dead x
  | _, _, .dead h => (e.live _ _ h).elim (fun x => .dead x) fun x => .dead x
theorem RVs.ext (e : Ext K β H β' H') : ∀ {ws : List W} {vs : List V}, RVs K β H ws vs → RVs K β' H' ws vs
  | _, _, .nil => .nil
  | _, _, .cons h r => .cons (RV.ext e h) (RVs.ext e r)
end
mutual
/-- an address less is protected -/
theorem RV.drop (hl : β'.l = β.l) (hp : ∀ p, p ∈ β'.pr → p ∈ β.pr) : ∀ {w : W} {v : V}, RV K β H w v → RV K β' H w v
  | _, _, .non => .non
  | _, _, .bl b => .bl b
  | _, _, .int i => .int i
  | _, _, .str x => .str x
  | _, _, .tup h r => .tup h (RVs.drop' hl hp r)
  | _, _, .lst h n r => .lst h ⟨fun i => by rw [hl]; exact n.1 i, fun z => n.2 (hp _ z)⟩ (RVs.drop' hl hp r)
  | _, _, .xst h r => .xst h (RVs.drop' hl hp r)
  | _, _, .ref h => .ref (by rw [hl]; exact h)
  | _, _, .dead h => .dead (by rw [hl]; exact h)
theorem RVs.drop' (hl : β'.l = β.l) (hp : ∀ p, p ∈ β'.pr → p ∈ β.pr) : ∀ {ws : List W} {vs : List V}, RVs K β H ws vs → RVs K β' H ws vs
  | _, _, .nil => .nil
  | _, _, .cons h r => .cons (RV.drop hl hp h) (RVs.drop' hl hp r)
end
theorem RVs.length : ∀ {ws : List W} {vs : List V}, RVs K β H ws vs → ws.length = vs.length
  | _, _, .nil => rfl
  | _, _, .cons _ r => by rw [List.length_cons, List.length_cons, RVs.length r]
theorem RVs.get : ∀ {ws : List W} {vs : List V} {i : Nat} {w : W}, RVs K β H ws vs → ws[i]? = some w → ∃ v, vs[i]? = some v ∧ RV K β H w v
  | _, _, _, _, .nil, e => by simp at e
  | _, _, 0, _, .cons h r, e => by simp at e; subst e; exact ⟨_, rfl, h⟩
  | _, _, i + 1, w, .cons h r, e => by
    obtain ⟨v, h1, h2⟩ := RVs.get (i := i) (w := w) r (by simpa using e)
    exact ⟨v, by simpa using h1, h2⟩
theorem RVs.getv : ∀ {ws : List W} {vs : List V} {i : Nat} {v : V}, RVs K β H ws vs → vs[i]? = some v → ∃ w, ws[i]? = some w ∧ RV K β H w v
  | _, _, _, _, .nil, e => by simp at e
  | _, _, 0, _, .cons h r, e => by simp at e; subst e; exact ⟨_, rfl, h⟩
  | _, _, i + 1, v, .cons h r, e => by
    obtain ⟨w, h1, h2⟩ := RVs.getv (i := i) (v := v) r (by simpa using e)
    exact ⟨w, by simpa using h1, h2⟩
theorem RVs.append : ∀ {ws ws' : List W} {vs vs' : List V}, RVs K β H ws vs → RVs K β H ws' vs' → RVs K β H (ws ++ ws') (vs ++ vs')
  | _, _, _, _, .nil, s => s
  | _, _, _, _, .cons h r, s => .cons h (RVs.append r s)
theorem RVs.take : ∀ {ws : List W} {vs : List V} (n : Nat), RVs K β H ws vs → RVs K β H (ws.take n) (vs.take n)
  | _, _, 0, _ => by simp; exact .nil
  | _, _, _ + 1, .nil => by simp; exact .nil
  | _, _, n + 1, .cons h r => .cons h (RVs.take n r)
theorem RVs.drop : ∀ {ws : List W} {vs : List V} (n : Nat), RVs K β H ws vs → RVs K β H (ws.drop n) (vs.drop n)
  | _, _, 0, r => r
  | _, _, _ + 1, .nil => by simp; exact .nil
  | _, _, n + 1, .cons _ r => RVs.drop n r
theorem RVs.set {w : W} {v : V} (h : RV K β H w v) : ∀ {ws : List W} {vs : List V} (i : Nat), RVs K β H ws vs → RVs K β H (ws.set i w) (vs.set i v)
  | _, _, _, .nil => .nil
  | _, _, 0, .cons _ r => .cons h r
  | _, _, i + 1, .cons q r => .cons q (RVs.set h i r)
theorem RVs.rep {ws : List W} {vs : List V} (h : RVs K β H ws vs) : ∀ k : Nat, RVs K β H (List.replicate k ws).flatten (List.replicate k vs).flatten
  | 0 => .nil
  | k + 1 => by
    rw [List.replicate_succ, List.replicate_succ, List.flatten_cons, List.flatten_cons]
    exact RVs.append h (RVs.rep h k)
theorem RVs.dropLast {ws : List W} {vs : List V} (h : RVs K β H ws vs) : RVs K β H ws.dropLast vs.dropLast := by
  rw [List.dropLast_eq_take, List.dropLast_eq_take, h.length]
  exact h.take _
theorem RVs.reverse : ∀ {ws : List W} {vs : List V}, RVs K β H ws vs → RVs K β H ws.reverse vs.reverse
  | _, _, .nil => .nil
  | _, _, .cons h r => by
    rw [List.reverse_cons, List.reverse_cons]
    exact (RVs.reverse r).append (.cons h .nil)
theorem RVs.eraseIdx : ∀ {ws : List W} {vs : List V} (i : Nat), RVs K β H ws vs → RVs K β H (ws.eraseIdx i) (vs.eraseIdx i)
  | _, _, _, .nil => .nil
  | _, _, 0, .cons _ r => r
  | _, _, i + 1, .cons q r => .cons q (RVs.eraseIdx i r)
end

/-- fields, a dict's pairs -/
inductive RF (K : PySem.W.Frag) (β : Bt) (H : Hp) {κ : Type} : List (κ × W) → List (κ × V) → Prop
  | nil : RF K β H [] []
  | cons {k : κ} {w : W} {v : V} {fs : List (κ × W)} {gs : List (κ × V)} : RV K β H w v → RF K β H fs gs → RF K β H ((k, w) :: fs) ((k, v) :: gs)
section
variable {K : PySem.W.Frag} {β β' : Bt} {H H' : Hp} {κ : Type}
theorem RF.ext (e : Ext K β H β' H') : ∀ {fs : List (κ × W)} {gs : List (κ × V)}, RF K β H fs gs → RF K β' H' fs gs
  | _, _, .nil => .nil
  | _, _, .cons h r => .cons (h.ext e) (RF.ext e r)
theorem RF.drop' (hl : β'.l = β.l) (hp : ∀ p, p ∈ β'.pr → p ∈ β.pr) : ∀ {fs : List (κ × W)} {gs : List (κ × V)}, RF K β H fs gs → RF K β' H fs gs
  | _, _, .nil => .nil
  | _, _, .cons h r => .cons (h.drop hl hp) (RF.drop' hl hp r)
theorem RF.length : ∀ {fs : List (κ × W)} {gs : List (κ × V)}, RF K β H fs gs → fs.length = gs.length
  | _, _, .nil => rfl
  | _, _, .cons _ r => by rw [List.length_cons, List.length_cons, RF.length r]
theorem RF.look [BEq κ] [LawfulBEq κ] {k : κ} : ∀ {fs : List (κ × W)} {gs : List (κ × V)} {w : W}, RF K β H fs gs → fs.lookup k = some w → ∃ v, gs.lookup k = some v ∧ RV K β H w v
  | _, _, _, .nil, e => by cases e
  | _, _, w, .cons (k := j) (w := u) (v := v) (fs := fs) (gs := gs) h r, e => by
    rw [List.lookup_cons] at e ⊢
    cases hk : (k == j) with
    | true =>
      rw [hk] at e
      cases e
      exact ⟨v, rfl, h⟩
    | false =>
      rw [hk] at e
      exact RF.look r e
theorem RF.lookN [BEq κ] [LawfulBEq κ] {k : κ} : ∀ {fs : List (κ × W)} {gs : List (κ × V)}, RF K β H fs gs → fs.lookup k = none → gs.lookup k = none
  | _, _, .nil, _ => rfl
  | _, _, .cons (k := j) h r, e => by
    rw [List.lookup_cons] at e ⊢
    cases hk : (k == j) with
    | true => rw [hk] at e; cases e
    | false =>
      rw [hk] at e
      exact RF.lookN r e
end
/-- a field stored -/
def putW (f : Str) (v : W) : Fl → Fl
  | [] => [(f, v)]
  | (g, u) :: r => if g = f then (f, v) :: r else (g, u) :: putW f v r
end Mi
/-! The mirror layer, part B: the store in a heap; what is wanted of an outcome. -/
namespace Mi
open PySem L2

abbrev Bt.push (β : Bt) (p : Addr) : Bt := ⟨β.l ++ [some p], β.pr⟩
abbrev Bt.letgo (β : Bt) (i : Nat) : Bt := ⟨β.l.set i none, β.pr⟩
abbrev Bt.guard (β : Bt) (p : Addr) : Bt := ⟨β.l, p :: β.pr⟩

section
variable (K : PySem.W.Frag) (Cl : Nat → Addr)
def RO (β : Bt) (H : Hp) (a : Addr) : Ob → Prop
  | .lst ws => ∃ vs, H a = some (.lst vs) ∧ RVs K β H ws vs
  | .dK kvs => ∃ gs, H a = some (.dK gs) ∧ RF K β H kvs gs
  | .dT kvs => ∃ gs, H a = some (.dT gs) ∧ RF K β H kvs gs
  | .ins c fs => ∃ dx gs, H a = some (.ins (Cl c) dx gs) ∧ RF K β H fs gs
  | .dead => False
structure HR (β : Bt) (H : Hp) (st : Sto) : Prop where
  len : β.l.length = st.length
  inj : ∀ (i j : Nat) (a : Addr), β.l[i]? = some (some a) → β.l[j]? = some (some a) → i = j
  ob : ∀ (i : Nat) (a : Addr) (o : Ob), β.l[i]? = some (some a) → st[i]? = some o → RO K Cl β H a o
  dead : ∀ i : Nat, β.l[i]? = some none → st[i]? = some .dead
  prot : ∀ p ∈ β.pr, (∃ o, H p = some o) ∧ ∀ i : Nat, β.l[i]? ≠ some (some p)
def SR (β : Bt) (H : Hp) (s : Slo) (σ : L2.St) : Prop := s.length = σ.length ∧ ∀ (i : Nat) (w : W), s[i]? = some (some w) → ∃ v, σ[i]? = some (some v) ∧ RV K β H w v
/-- an exception's own dict -/
def RX (β : Bt) (H : Hp) (fs : Fl) (d : Option Addr) : Prop := (fs = [] ∧ d = none) ∨ ∃ dd gs, d = some dd ∧ H dd = some (.xd gs) ∧ RF K β H fs gs

def PoG {α ω : Type} (R : Bt → Hp → α → ω → Prop) (E : XK) (β : Bt) (H : Hp) (Q : ω → Hp → Prop) : Out α → Prop
  | .ok a st => ∀ β' H' v, Ext K β H β' H' → HR K Cl β' H' st → R β' H' a v → Q v H'
  | .exc c fs st => ∀ β' H' d, Ext K β H β' H' → HR K Cl β' H' st → RX K β' H' fs d → E (.ref (Cl c)) d H'
  | .stuck => False
abbrev Po (E : XK) := PoG K Cl (RV K) E
abbrev PoL (E : XK) := PoG K Cl (RVs K) E
abbrev PoB (E : XK) := PoG K Cl (fun _ _ (a b : Bool) => a = b) E
def PoS (E : XK) (D : Ends) (β : Bt) (H : Hp) : SO → Prop
  | .nx s st => ∀ β' H' σ', Ext K β H β' H' → HR K Cl β' H' st → SR K β' H' s σ' → D.nx σ' H'
  | .rt w st => ∀ β' H' v, Ext K β H β' H' → HR K Cl β' H' st → RV K β' H' w v → D.rt v H'
  | .bk s st => ∀ β' H' σ', Ext K β H β' H' → HR K Cl β' H' st → SR K β' H' s σ' → D.bk σ' H'
  | .ct s st => ∀ β' H' σ', Ext K β H β' H' → HR K Cl β' H' st → SR K β' H' s σ' → D.ct σ' H'
  | .exc c fs st => ∀ β' H' d, Ext K β H β' H' → HR K Cl β' H' st → RX K β' H' fs d → E (.ref (Cl c)) d H'
  | .stuck => False
def SE (E : XK) (t : TE) (m : ME) : Prop := ∀ β H σ s st Q, HR K Cl β H st → SR K β H s σ → Po K Cl E β H Q (m s st) → t σ H Q
def SA (E : XK) (t : TA) (m : MA) : Prop := ∀ β H σ s st Q, HR K Cl β H st → SR K β H s σ → PoL K Cl E β H Q (m s st) → t σ H Q
def ST (E : XK) (t : TT) (m : MT) : Prop := ∀ β H σ s st Q, HR K Cl β H st → SR K β H s σ → PoB K Cl E β H Q (m s st) → t σ H Q
def SS (E : XK) (t : TS) (m : MS) : Prop := ∀ β H σ s st D, HR K Cl β H st → SR K β H s σ → PoS K Cl E D β H (m s st) → t D σ H
end

section
variable {K : PySem.W.Frag} {Cl : Nat → Addr} {E : XK} {β β' : Bt} {H H' : Hp} {α ω : Type} {R : Bt → Hp → α → ω → Prop} {Q Q' : ω → Hp → Prop} {st : Sto} {s : Slo} {σ : L2.St} {o : Out α}
theorem PoG.ext (e : Ext K β H β' H') (h : PoG K Cl R E β H Q o) : PoG K Cl R E β' H' Q o := by
  cases o with
  | ok a st => exact fun β2 H2 v e2 hr r => h β2 H2 v (e.trans e2) hr r
  | exc c fs st => exact fun β2 H2 d e2 hr r => h β2 H2 d (e.trans e2) hr r
  | stuck => exact h
theorem PoS.ext {D : Ends} {o : SO} (e : Ext K β H β' H') (h : PoS K Cl E D β H o) : PoS K Cl E D β' H' o := by
  cases o with
  | nx s st => exact fun β2 H2 v e2 hr r => h β2 H2 v (e.trans e2) hr r
  | rt s st => exact fun β2 H2 v e2 hr r => h β2 H2 v (e.trans e2) hr r
  | bk s st => exact fun β2 H2 v e2 hr r => h β2 H2 v (e.trans e2) hr r
  | ct s st => exact fun β2 H2 v e2 hr r => h β2 H2 v (e.trans e2) hr r
  | exc c fs st => exact fun β2 H2 d e2 hr r => h β2 H2 d (e.trans e2) hr r
  | stuck => exact h
theorem SR.ext (e : Ext K β H β' H') (h : SR K β H s σ) : SR K β' H' s σ := ⟨h.1, fun i w hw => by
  obtain ⟨v, h1, h2⟩ := h.2 i w hw
  exact ⟨v, h1, h2.ext e⟩⟩
theorem SR.set (h : SR K β H s σ) {i : Nat} {w : W} {v : V} (r : RV K β H w v) : SR K β H (s.set i (some w)) (σ.set i (some v)) := by
  refine ⟨by rw [List.length_set, List.length_set, h.1], fun j u hj => ?_⟩
  by_cases e : i = j
  · subst e
    by_cases hl : i < s.length
    · rw [List.getElem?_set_self hl] at hj
      cases hj
      exact ⟨v, by rw [List.getElem?_set_self (by rw [← h.1]; exact hl)], r⟩
    · rw [List.getElem?_eq_none (by rw [List.length_set]; omega)] at hj
      cases hj
  · rw [List.getElem?_set_ne e] at hj ⊢
    exact h.2 j u hj
theorem HR.len' (h : HR K Cl β H st) {i : Nat} {o : Option Addr} (e : β.l[i]? = some o) : i < st.length := by
  rw [← h.len]
  exact (List.getElem?_eq_some_iff.mp e).1
/-- what a live place of the store holds -/
theorem HR.at (h : HR K Cl β H st) {i : Nat} {ob : Ob} (e : st[i]? = some ob) (hd : ob ≠ .dead) : ∃ a, β.l[i]? = some (some a) ∧ RO K Cl β H a ob := by
  have hi : i < β.l.length := by
    rw [h.len]
    exact (List.getElem?_eq_some_iff.mp e).1
  cases hb : β.l[i]? with
  | none => rw [List.getElem?_eq_none_iff] at hb; omega
  | some o =>
    cases o with
    | none =>
      rw [h.dead i hb] at e
      exact absurd (Option.some.inj e).symm hd
    | some a => exact ⟨a, rfl, h.ob i a ob hb e⟩
/-- a ref with a live object -/
theorem RV.atRef {i : Nat} {v : V} {ob : Ob} (r : RV K β H (.ref i) v) (h : HR K Cl β H st) (e : st[i]? = some ob) (hd : ob ≠ .dead) : ∃ a, v = .ref a ∧ β.l[i]? = some (some a) ∧ RO K Cl β H a ob := by
  obtain ⟨a, hb, ro⟩ := h.at e hd
  cases r with
  | ref h1 =>
    rw [hb] at h1
    cases h1
    exact ⟨a, rfl, hb, ro⟩
  | dead h1 =>
    rw [hb] at h1
    cases h1
theorem RO.some {a : Addr} {ob : Ob} (r : RO K Cl β H a ob) : ∃ u, H a = some u ∧ Mut (some u) := by
  cases ob with
  | lst ws => obtain ⟨_, h, _⟩ := r; exact ⟨_, h, trivial⟩
  | dK ws => obtain ⟨_, h, _⟩ := r; exact ⟨_, h, trivial⟩
  | dT ws => obtain ⟨_, h, _⟩ := r; exact ⟨_, h, trivial⟩
  | ins c fs => obtain ⟨_, _, h, _⟩ := r; exact ⟨_, h, trivial⟩
  | dead => exact r.elim
theorem RO.ext {a : Addr} {ob : Ob} (e : Ext K β H β' H') (ha : H' a = H a) (r : RO K Cl β H a ob) : RO K Cl β' H' a ob := by
  cases ob with
  | lst ws => obtain ⟨vs, h, r⟩ := r; exact ⟨vs, ha.trans h, r.ext e⟩
  | dK ws => obtain ⟨vs, h, r⟩ := r; exact ⟨vs, ha.trans h, r.ext e⟩
  | dT ws => obtain ⟨vs, h, r⟩ := r; exact ⟨vs, ha.trans h, r.ext e⟩
  | ins c fs => obtain ⟨dx, vs, h, r⟩ := r; exact ⟨dx, vs, ha.trans h, r.ext e⟩
  | dead => exact r.elim

/-! ### a new object that the store does not know -/
theorem sqT_ne {p q : Addr} {o : HO} {vs : List V} (h : H p = none) (hq : SqT K H q vs) : SqT K (upd H p o) q vs := by
  rcases hq with (hq | ⟨u, hq⟩) | hq
  · exact .inl (.inl (by rw [upd_ne (ne_of_none hq h)]; exact hq))
  · exact .inl (.inr ⟨u, by rw [upd_ne (ne_of_none hq h)]; exact hq⟩)
  · exact .inr hq
theorem Ext.new {p : Addr} {o : HO} (h : H p = none) : Ext K β H β (upd H p o) where
  tup := fun q vs hq => sqT_ne h hq
  lst := fun q vs hq n => ⟨by rw [upd_ne (ne_of_none hq h)]; exact hq, n⟩
  frz := fun q u x hq => by rw [upd_ne (ne_of_none hq h)]; exact hq
  live := fun _ _ h => .inl h
  prot := fun q hp u hq => ⟨hp, by rw [upd_ne (ne_of_none hq h)]; exact hq⟩
theorem HR.fresh (h : HR K Cl β H st) {p : Addr} (hp : H p = none) : NotIn β p := by
  refine ⟨fun i hi => ?_, fun hi => ?_⟩
  · have hl := h.len' hi
    obtain ⟨ob, ho⟩ : ∃ ob, st[i]? = some ob := ⟨st[i], List.getElem?_eq_getElem hl⟩
    obtain ⟨u, hu, _⟩ := (h.ob i p ob hi ho).some
    rw [hp] at hu
    cases hu
  · obtain ⟨⟨o, ho⟩, _⟩ := h.prot p hi
    rw [hp] at ho
    cases ho
theorem HR.new (h : HR K Cl β H st) {p : Addr} {o : HO} (hp : H p = none) : HR K Cl β (upd H p o) st where
  len := h.len
  inj := h.inj
  ob := fun i a ob hi ho => by
    have r := h.ob i a ob hi ho
    obtain ⟨u, hu, _⟩ := r.some
    exact r.ext (Ext.new hp) (upd_ne (ne_of_none hu hp))
  dead := h.dead
  prot := fun q hq => by
    obtain ⟨⟨u, hu⟩, n⟩ := h.prot q hq
    exact ⟨⟨u, by rw [upd_ne (ne_of_none hu hp)]; exact hu⟩, n⟩
/-- any heap that keeps all that is tracked -/
theorem Ext.same (e : Same H H') : Ext K β H β H' where
  tup := fun q vs hq => by
    rcases hq with (hq | ⟨u, hq⟩) | hq
    · exact .inl (.inl (e _ _ hq))
    · exact .inl (.inr ⟨u, e _ _ hq⟩)
    · exact .inr hq
  lst := fun q vs hq n => ⟨e _ _ hq, n⟩
  frz := fun q u x hq => e _ _ hq
  live := fun _ _ h => .inl h
  prot := fun q hp u hq => ⟨hp, e _ _ hq⟩
theorem HR.same (h : HR K Cl β H st) (e : Same H H') : HR K Cl β H' st where
  len := h.len
  inj := h.inj
  ob := fun i a ob hi ho => by
    have r := h.ob i a ob hi ho
    obtain ⟨u, hu, _⟩ := r.some
    exact r.ext (Ext.same e) (by rw [e _ _ hu, hu])
  dead := h.dead
  prot := fun q hq => by
    obtain ⟨⟨u, hu⟩, n⟩ := h.prot q hq
    exact ⟨⟨u, e _ _ hu⟩, n⟩

/-! ### a new object of the store -/
theorem push_at {p : Addr} {i : Nat} {o : Option Addr} (h : (β.push p).l[i]? = some o) : β.l[i]? = some o ∨ (i = β.l.length ∧ o = some p) := by
  by_cases hl : i < β.l.length
  · rw [List.getElem?_append_left hl] at h
    exact .inl h
  · rw [List.getElem?_append_right (by omega)] at h
    cases hk : i - β.l.length with
    | zero =>
      rw [hk] at h
      exact .inr ⟨by omega, (Option.some.inj h).symm⟩
    | succ k => rw [hk] at h; simp at h
theorem Ext.push {p : Addr} {o : HO} (h : H p = none) : Ext K β H (β.push p) (upd H p o) where
  tup := fun q vs hq => sqT_ne h hq
  lst := fun q vs hq n => ⟨by rw [upd_ne (ne_of_none hq h)]; exact hq, fun i hi => by
    have hne := ne_of_none hq h
    rcases push_at hi with hi | ⟨_, hi⟩
    · exact n.1 i hi
    · exact hne (Option.some.inj hi), n.2⟩
  frz := fun q u x hq => by rw [upd_ne (ne_of_none hq h)]; exact hq
  live := fun i o hi => .inl (by rw [List.getElem?_append_left (List.getElem?_eq_some_iff.mp hi).1]; exact hi)
  prot := fun q hp u hq => ⟨hp, by rw [upd_ne (ne_of_none hq h)]; exact hq⟩
theorem HR.push (h : HR K Cl β H st) {p : Addr} {o : HO} {ob : Ob} (hp : H p = none) (r : RO K Cl (β.push p) (upd H p o) p ob) : HR K Cl (β.push p) (upd H p o) (st ++ [ob]) where
  len := by
    show (β.l ++ [some p]).length = _
    rw [List.length_append, List.length_append, h.len] <;> rfl
  inj := fun i j a hi hj => by
    have nf := (h.fresh hp).1
    rcases push_at hi with hi | ⟨hi, ei⟩
    · rcases push_at hj with hj | ⟨hj, ej⟩
      · exact h.inj i j a hi hj
      · cases ej
        exact absurd hi (nf i)
    · rcases push_at hj with hj | ⟨hj, ej⟩
      · cases ei
        exact absurd hj (nf j)
      · rw [hi, hj]
  ob := fun i a ob' hi ho => by
    rcases push_at hi with hi | ⟨hi, ei⟩
    · have hl := h.len' hi
      rw [List.getElem?_append_left hl] at ho
      have r' := h.ob i a ob' hi ho
      obtain ⟨u, hu, _⟩ := r'.some
      exact r'.ext (Ext.push hp) (upd_ne (ne_of_none hu hp))
    · cases ei
      rename_i hi2
      have hi3 : i = st.length := by rw [← h.len]; exact hi2
      rw [hi3, List.getElem?_append_right (Nat.le_refl _), Nat.sub_self] at ho
      cases ho
      exact r
  dead := fun i hi => by
    rcases push_at hi with hi | ⟨_, ei⟩
    · have hl := h.len' hi
      rw [List.getElem?_append_left hl]
      exact h.dead i hi
    · cases ei
  prot := fun q hq => by
    obtain ⟨⟨u, hu⟩, n⟩ := h.prot q hq
    have hne := ne_of_none hu hp
    refine ⟨⟨u, by rw [upd_ne hne]; exact hu⟩, fun i hi => ?_⟩
    rcases push_at hi with hi | ⟨_, hi⟩
    · exact n i hi
    · exact hne (Option.some.inj hi)
theorem push_last {p : Addr} : (β.push p).l[β.l.length]? = some (some p) := by
  show (β.l ++ [some p])[β.l.length]? = _
  simp

/-! ### an object of the store changes -/
theorem Ext.mut (hr : HR K Cl β H st) {i : Nat} {a : Addr} {o u : HO} (hb : β.l[i]? = some (some a)) (hu : H a = some u) (hm : Mut (some u)) : Ext K β H β (upd H a o) where
  tup := fun q vs hq => by
    rcases hq with (hq | ⟨x, hq⟩) | hq
    · exact .inl (.inl (by rw [upd_ne (fun e => by subst e; rw [hu] at hq; cases hq; exact hm)]; exact hq))
    · exact .inl (.inr ⟨x, by rw [upd_ne (fun e => by subst e; rw [hu] at hq; cases hq; exact hm)]; exact hq⟩)
    · exact .inr hq
  lst := fun q vs hq n => ⟨by rw [upd_ne (fun e => by subst e; exact n.1 i hb)]; exact hq, n⟩
  frz := fun q x y hq => by rw [upd_ne (fun e => by subst e; rw [hu] at hq; cases hq; exact hm)]; exact hq
  live := fun _ _ h => .inl h
  prot := fun q hp u hq => ⟨hp, by rw [upd_ne (fun e => by subst e; exact (hr.prot _ hp).2 i hb)]; exact hq⟩
theorem HR.mut (h : HR K Cl β H st) {i : Nat} {a : Addr} {o u : HO} {ob : Ob} (hb : β.l[i]? = some (some a)) (hu : H a = some u) (hm : Mut (some u)) (r : RO K Cl β (upd H a o) a ob) : HR K Cl β (upd H a o) (st.set i ob) where
  len := by rw [List.length_set]; exact h.len
  inj := h.inj
  ob := fun j b ob' hj ho => by
    by_cases e : i = j
    · subst e
      rw [hb] at hj
      cases hj
      rw [List.getElem?_set_self (h.len' hb)] at ho
      cases ho
      exact r
    · rw [List.getElem?_set_ne e] at ho
      have hne : b ≠ a := fun z => by
        subst z
        exact e (h.inj i j b hb hj)
      exact (h.ob j b ob' hj ho).ext (Ext.mut h hb hu hm) (upd_ne hne)
  dead := fun j hj => by
    have e : i ≠ j := fun z => by
      subst z
      rw [hb] at hj
      cases hj
    rw [List.getElem?_set_ne e]
    exact h.dead j hj
  prot := fun q hq => by
    obtain ⟨⟨u, hu'⟩, n⟩ := h.prot q hq
    refine ⟨?_, n⟩
    by_cases e : q = a
    · subst e
      exact absurd hb (n i)
    · exact ⟨u, by rw [upd_ne e]; exact hu'⟩

/-! ### an object of the store is let go: its list becomes a value -/
theorem let_at {i j : Nat} {o : Option Addr} (h : (β.letgo i).l[j]? = some o) : (j = i ∧ o = none) ∨ (j ≠ i ∧ β.l[j]? = some o) := by
  by_cases e : i = j
  · subst e
    by_cases hl : i < β.l.length
    · rw [List.getElem?_set_self hl] at h
      exact .inl ⟨rfl, (Option.some.inj h).symm⟩
    · rw [List.getElem?_eq_none (by rw [List.length_set]; omega)] at h
      cases h
  · rw [List.getElem?_set_ne e] at h
    exact .inr ⟨fun z => e z.symm, h⟩
theorem Ext.letgo {i : Nat} : Ext K β H (β.letgo i) H where
  tup := fun q vs hq => hq
  lst := fun q vs hq n => ⟨hq, fun j hj => by
    rcases let_at hj with ⟨_, e⟩ | ⟨_, e⟩
    · cases e
    · exact n.1 j e, n.2⟩
  frz := fun q x y hq => hq
  live := fun j o hj => by
    by_cases e : i = j
    · subst e
      exact .inr (by rw [List.getElem?_set_self (List.getElem?_eq_some_iff.mp hj).1])
    · exact .inl (by rw [List.getElem?_set_ne e]; exact hj)
  prot := fun q hp u hq => ⟨hp, hq⟩
theorem HR.letgo (h : HR K Cl β H st) {i : Nat} {a : Addr} (hb : β.l[i]? = some (some a)) : HR K Cl (β.letgo i) H (st.set i .dead) where
  len := by
    show (β.l.set i none).length = _
    rw [List.length_set, List.length_set]
    exact h.len
  inj := fun j k b hj hk => by
    rcases let_at hj with ⟨_, e⟩ | ⟨_, e⟩
    · cases e
    · rcases let_at hk with ⟨_, e'⟩ | ⟨_, e'⟩
      · cases e'
      · exact h.inj j k b e e'
  ob := fun j b ob hj ho => by
    rcases let_at hj with ⟨_, e⟩ | ⟨ne, e⟩
    · cases e
    · rw [List.getElem?_set_ne (fun z => ne z.symm)] at ho
      exact (h.ob j b ob e ho).ext Ext.letgo rfl
  dead := fun j hj => by
    rcases let_at hj with ⟨e, _⟩ | ⟨ne, e⟩
    · subst e
      rw [List.getElem?_set_self (h.len' hb)]
    · rw [List.getElem?_set_ne (fun z => ne z.symm)]
      exact h.dead j e
  prot := fun q hq => by
    obtain ⟨hu, n⟩ := h.prot q hq
    refine ⟨hu, fun j hj => ?_⟩
    rcases let_at hj with ⟨_, e⟩ | ⟨_, e⟩
    · cases e
    · exact n j e

/-! ### a list that a comprehension makes: guarded, outside of the store -/
theorem Ext.guard {p : Addr} {o : HO} (h : H p = none) : Ext K β H (β.guard p) (upd H p o) where
  tup := fun q vs hq => sqT_ne h hq
  lst := fun q vs hq n => ⟨by rw [upd_ne (ne_of_none hq h)]; exact hq, n.1, fun z => by
    rcases List.mem_cons.mp z with z | z
    · exact ne_of_none hq h z
    · exact n.2 z⟩
  frz := fun q u x hq => by rw [upd_ne (ne_of_none hq h)]; exact hq
  live := fun _ _ h => .inl h
  prot := fun q hp u hq => ⟨List.mem_cons_of_mem _ hp, by rw [upd_ne (ne_of_none hq h)]; exact hq⟩
theorem HR.guard (h : HR K Cl β H st) {p : Addr} {o : HO} (hp : H p = none) : HR K Cl (β.guard p) (upd H p o) st where
  len := h.len
  inj := h.inj
  ob := fun i a ob hi ho => by
    have r := h.ob i a ob hi ho
    obtain ⟨u, hu, _⟩ := r.some
    exact r.ext (Ext.guard hp) (upd_ne (ne_of_none hu hp))
  dead := h.dead
  prot := fun q hq => by
    rcases List.mem_cons.mp hq with e | hq
    · subst e
      exact ⟨⟨o, upd_same⟩, (h.fresh hp).1⟩
    · obtain ⟨⟨u, hu⟩, n⟩ := h.prot q hq
      exact ⟨⟨u, by rw [upd_ne (ne_of_none hu hp)]; exact hu⟩, n⟩
/-- the guarded list at p has changed: what was known is known again -/
theorem Ext.gset {p : Addr} {vs : List V} {o : HO} (hu : H p = some (.lst vs)) (hp : p ∈ β.pr) (β0 : Bt) (H0 : Hp) (e : Ext K β0 H0 β H) (h0 : H0 p = none) : Ext K β0 H0 β (upd H p o) where
  tup := fun q us hq => by
    have hq' := e.tup q us hq
    rcases hq with (hq | ⟨x, hq⟩) | hq
    · rcases hq' with (hq' | ⟨x, hq'⟩) | hq'
      · exact .inl (.inl (by rw [upd_ne (ne_of_none hq h0)]; exact hq'))
      · exact .inl (.inr ⟨x, by rw [upd_ne (ne_of_none hq h0)]; exact hq'⟩)
      · exact .inr hq'
    · rcases hq' with (hq' | ⟨x, hq'⟩) | hq'
      · exact .inl (.inl (by rw [upd_ne (ne_of_none hq h0)]; exact hq'))
      · exact .inl (.inr ⟨x, by rw [upd_ne (ne_of_none hq h0)]; exact hq'⟩)
      · exact .inr hq'
    · exact .inr hq
  lst := fun q us hq n => ⟨by rw [upd_ne (ne_of_none hq h0)]; exact (e.lst q us hq n).1, (e.lst q us hq n).2⟩
  frz := fun q u x hq => by rw [upd_ne (ne_of_none hq h0)]; exact e.frz q u x hq
  live := e.live
  prot := fun q hq u hu => ⟨(e.prot q hq u hu).1, by rw [upd_ne (ne_of_none hu h0)]; exact (e.prot q hq u hu).2⟩
/-- the same for what was reckoned while the list was guarded -/
structure Keep (K : PySem.W.Frag) (β : Bt) (H H' : Hp) : Prop where
  tup : ∀ p vs, SqT K H p vs → SqT K H' p vs
  lst : ∀ p vs, H p = some (.lst vs) → NotIn β p → H' p = some (.lst vs)
  frz : ∀ p o u, H p = some (.frz o u) → H' p = some (.frz o u)
mutual
theorem RV.keep (e : Keep K β H H') : ∀ {w : W} {v : V}, RV K β H w v → RV K β H' w v
  | _, _, .non => .non
  | _, _, .bl b => .bl b
  | _, _, .int i => .int i
  | _, _, .str x => .str x
  | _, _, .tup h r => .tup (e.tup _ _ h) (RVs.keep e r)
  | _, _, .lst h n r => .lst (e.lst _ _ h n) n (RVs.keep e r)
  | _, _, .xst h r => .xst (h.imp (fun x => x) fun ⟨o, x⟩ => ⟨o, e.frz _ _ _ x⟩) (RVs.keep e r)
  | _, _, .ref h => .ref h
  | _, _, .dead h => .dead h
theorem RVs.keep (e : Keep K β H H') : ∀ {ws : List W} {vs : List V}, RVs K β H ws vs → RVs K β H' ws vs
  | _, _, .nil => .nil
  | _, _, .cons h r => .cons (RV.keep e h) (RVs.keep e r)
end
theorem RF.keep {κ : Type} (e : Keep K β H H') : ∀ {fs : List (κ × W)} {gs : List (κ × V)}, RF K β H fs gs → RF K β H' fs gs
  | _, _, .nil => .nil
  | _, _, .cons h r => .cons (h.keep e) (RF.keep e r)
theorem Keep.gset {p : Addr} {vs : List V} {o : HO} (hu : H p = some (.lst vs)) (hp : p ∈ β.pr) : Keep K β H (upd H p o) where
  tup := fun q us hq => by
    rcases hq with (hq | ⟨x, hq⟩) | hq
    · exact .inl (.inl (by rw [upd_ne (fun e => by subst e; rw [hu] at hq; cases hq)]; exact hq))
    · exact .inl (.inr ⟨x, by rw [upd_ne (fun e => by subst e; rw [hu] at hq; cases hq)]; exact hq⟩)
    · exact .inr hq
  lst := fun q us hq n => by rw [upd_ne (fun e => by subst e; exact n.2 hp)]; exact hq
  frz := fun q x y hq => by rw [upd_ne (fun e => by subst e; rw [hu] at hq; cases hq)]; exact hq
theorem RO.keep {a : Addr} {ob : Ob} (e : Keep K β H H') (ha : H' a = H a) (r : RO K Cl β H a ob) : RO K Cl β H' a ob := by
  cases ob with
  | lst ws => obtain ⟨vs, h, r⟩ := r; exact ⟨vs, ha.trans h, r.keep e⟩
  | dK ws => obtain ⟨vs, h, r⟩ := r; exact ⟨vs, ha.trans h, r.keep e⟩
  | dT ws => obtain ⟨vs, h, r⟩ := r; exact ⟨vs, ha.trans h, r.keep e⟩
  | ins c fs => obtain ⟨dx, vs, h, r⟩ := r; exact ⟨dx, vs, ha.trans h, r.keep e⟩
  | dead => exact r.elim
theorem HR.gset (h : HR K Cl β H st) {p : Addr} {vs : List V} {o : HO} (hu : H p = some (.lst vs)) (hp : p ∈ β.pr) : HR K Cl β (upd H p o) st where
  len := h.len
  inj := h.inj
  ob := fun i a ob hi ho => (h.ob i a ob hi ho).keep (Keep.gset hu hp) (upd_ne fun e => by subst e; exact (h.prot _ hp).2 i hi)
  dead := h.dead
  prot := fun q hq => by
    obtain ⟨⟨u, hu'⟩, n⟩ := h.prot q hq
    refine ⟨?_, n⟩
    by_cases e : q = p
    · subst e
      exact ⟨o, upd_same⟩
    · exact ⟨u, by rw [upd_ne e]; exact hu'⟩
/-- the guard is taken away -/
theorem RO.drop {a : Addr} {ob : Ob} (hl : β'.l = β.l) (hp : ∀ p, p ∈ β'.pr → p ∈ β.pr) (r : RO K Cl β H a ob) : RO K Cl β' H a ob := by
  cases ob with
  | lst ws => obtain ⟨vs, h, r⟩ := r; exact ⟨vs, h, r.drop' hl hp⟩
  | dK ws => obtain ⟨vs, h, r⟩ := r; exact ⟨vs, h, r.drop' hl hp⟩
  | dT ws => obtain ⟨vs, h, r⟩ := r; exact ⟨vs, h, r.drop' hl hp⟩
  | ins c fs => obtain ⟨dx, vs, h, r⟩ := r; exact ⟨dx, vs, h, r.drop' hl hp⟩
  | dead => exact r.elim
theorem HR.drop (h : HR K Cl β H st) (hl : β'.l = β.l) (hp : ∀ p, p ∈ β'.pr → p ∈ β.pr) : HR K Cl β' H st where
  len := by rw [hl]; exact h.len
  inj := by rw [hl]; exact h.inj
  ob := fun i a ob hi ho => by
    rw [hl] at hi
    exact (h.ob i a ob hi ho).drop hl hp
  dead := by rw [hl]; exact h.dead
  prot := fun q hq => by
    rw [hl]
    exact h.prot q (hp q hq)
/-- from ahead of the guard to behind it -/
theorem Ext.drop {p : Addr} (e : Ext K β H β' H') (h0 : ∀ q, q ∈ β.pr → ∃ o, H q = some o) (hp : H p = none) : Ext K β H ⟨β'.l, β'.pr.filter fun q => decide (q ≠ p)⟩ H' where
  tup := e.tup
  lst := fun q us hq n => ⟨(e.lst q us hq n).1, (e.lst q us hq n).2.1, fun z => (e.lst q us hq n).2.2 (List.mem_filter.mp z).1⟩
  frz := e.frz
  live := e.live
  prot := fun q hq u hu => ⟨List.mem_filter.mpr ⟨(e.prot q hq u hu).1, decide_eq_true (ne_of_none hu hp)⟩, (e.prot q hq u hu).2⟩
end
end Mi
/-! The mirror layer, part C: expressions. -/
namespace Mi
open PySem L2

/-! ### judgements: the hand layer's term exists, and its reading follows from the mirror -/
structure JE (X : Cx) (Cl : Nat → Addr) (E : XK) (e : Expr) (m : ME) : Prop where
  ex : ∃ t, PE X e t ∧ SE X.K Cl E t m
structure JA (X : Cx) (Cl : Nat → Addr) (E : XK) (es : List Expr) (m : MA) : Prop where
  ex : ∃ t, PA X es t ∧ SA X.K Cl E t m
structure JT (X : Cx) (Cl : Nat → Addr) (E : XK) (e : Expr) (m : MT) : Prop where
  ex : ∃ t, PT X e t ∧ ST X.K Cl E t m
structure JW (X : Cx) (Cl : Nat → Addr) (E : XK) (e : Expr) (m : MT) : Prop where
  ex : ∃ t, PW X e t ∧ ST X.K Cl E t m

section
variable {K : PySem.W.Frag} {Cl : Nat → Addr} {E : XK} {β : Bt} {H : Hp} {α α' ω ω' : Type} {R1 : Bt → Hp → α → ω → Prop} {R2 : Bt → Hp → α' → ω' → Prop}
theorem PoG.bind {Q : ω' → Hp → Prop} {Q1 : ω → Hp → Prop} {o : Out α} {f : α → Sto → Out α'} (h : PoG K Cl R2 E β H Q (o.bind f))
    (k : ∀ a st1 β1 H1 v, o = .ok a st1 → Ext K β H β1 H1 → HR K Cl β1 H1 st1 → R1 β1 H1 a v → PoG K Cl R2 E β1 H1 Q (f a st1) → Q1 v H1) : PoG K Cl R1 E β H Q1 o := by
  cases o with
  | ok a st => exact fun β1 H1 v e hr r => k a st β1 H1 v rfl e hr r (PoG.ext e h)
  | exc c fs st => exact h
  | stuck => exact h
theorem PoG.val {Q : ω' → Hp → Prop} {a : α'} {st : Sto} {v : ω'} (h : PoG K Cl R2 E β H Q (.ok a st)) (hr : HR K Cl β H st) (r : R2 β H a v) : Q v H := h β H v (Ext.refl K β H) hr r
end

/-! ### values as data -/
mutual
@[simp] def toPy : W → Option PyData
  | .non => some .none
  | .bl b => some (.bool b)
  | .int i => some (.int i)
  | .str x => some (.str x)
  | .tup xs => (toPys xs).map .tuple
  | .lst xs => (toPys xs).map .list
  | .xst xs => (toPys xs).map .list
  | .ref _ => none
@[simp] def toPys : List W → Option (List PyData)
  | [] => some []
  | w :: ws => match toPy w, toPys ws with
    | some d, some ds => some (d :: ds)
    | _, _ => none
end
/-- a list's items -/
@[simp] def asL (w : W) (st : Sto) : Option (List W) := match w with
  | .lst ws => some ws
  | .xst ws => some ws
  | .ref i => match st[i]? with
    | some (.lst ws) => some ws
    | _ => none
  | _ => none
/-- .. of one of the call's own -/
@[simp] def asLM (w : W) (st : Sto) : Option (List W) := match w with
  | .lst ws => some ws
  | .ref i => match st[i]? with
    | some (.lst ws) => some ws
    | _ => none
  | _ => none
@[simp] def toPyS (w : W) (st : Sto) : Option PyData := match w with
  | .ref i => match st[i]? with
    | some (.lst ws) => (toPys ws).map .list
    | _ => none
  | w => toPy w
@[simp] def truth (w : W) (st : Sto) : Option Bool := match w with
  | .non => some false
  | .bl b => some b
  | .int i => some (i != 0)
  | .str x => if x.length ≤ sizeLine then some ((x.length : Int) != 0) else none
  | .tup xs => some (!xs.isEmpty)
  | .lst xs => some (!xs.isEmpty)
  | .xst xs => some (!xs.isEmpty)
  | .ref i => match st[i]? with
    | some (.lst xs) => some (!xs.isEmpty)
    | some (.dK xs) => some (!xs.isEmpty)
    | _ => none
@[simp] def flatW : W → Bool
  | .non => true | .bl _ => true | .int _ => true | .str _ => true | _ => false
@[simp] def toV : W → V
  | .non => .non | .bl b => .bl b | .int i => .int i | .str x => .str x | _ => .non

section
variable {K : PySem.W.Frag} {Cl : Nat → Addr} {E : XK} {β : Bt} {H : Hp} {st : Sto}
theorem KL.sq {a : Addr} {vs : List V} (h : KL K a vs ∨ ∃ o, H a = some (.frz o (.lst vs))) : SqL K H a vs := h.elim (fun x => .inr x) fun ⟨o, x⟩ => .inl (.inr ⟨o, x⟩)
mutual
theorem toPy_dp : ∀ {w : W} {v : V} {d : PyData}, RV K β H w v → toPy w = some d → Dp K H v d
  | _, _, _, .non, h => by cases h; exact .non
  | _, _, _, .bl b, h => by cases h; exact .bl b
  | _, _, _, .int i, h => by cases h; exact .int i
  | _, _, _, .str x, h => by cases h; exact .str x
  | _, _, _, .tup (ws := ws) hs r, h => by
    simp only [toPy, Option.map_eq_some_iff] at h
    obtain ⟨ds, h1, h2⟩ := h
    subst h2
    exact .tup hs (toPys_dp r h1)
  | _, _, _, .lst hs n r, h => by
    simp only [toPy, Option.map_eq_some_iff] at h
    obtain ⟨ds, h1, h2⟩ := h
    subst h2
    exact .lst (SqL.of hs) (toPys_dp r h1)
  | _, _, _, .xst hs r, h => by
    simp only [toPy, Option.map_eq_some_iff] at h
    obtain ⟨ds, h1, h2⟩ := h
    subst h2
    exact .lst (KL.sq hs) (toPys_dp r h1)
  | _, _, _, .ref _, h => by cases h
  | _, _, _, .dead _, h => by cases h
theorem toPys_dp : ∀ {ws : List W} {vs : List V} {ds : List PyData}, RVs K β H ws vs → toPys ws = some ds → DpAll K H vs ds
  | _, _, _, .nil, h => by cases h; exact .nil
  | _, _, _, .cons (w := w) (ws := ws) r rr, h => by
    simp only [toPys] at h
    cases h1 : toPy w with
    | none => rw [h1] at h; cases h
    | some d =>
      cases h2 : toPys ws with
      | none => rw [h1, h2] at h; cases h
      | some ds =>
        rw [h1, h2] at h
        cases h
        exact .cons (toPy_dp r h1) (toPys_dp rr h2)
end
theorem asL_ok {w : W} {v : V} {ws : List W} (hr : HR K Cl β H st) (r : RV K β H w v) (h : asL w st = some ws) : ∃ p vs, v = .ref p ∧ SqL K H p vs ∧ RVs K β H ws vs := by
  cases w with
  | lst xs => cases h; cases r with | lst h1 _ h3 => exact ⟨_, _, rfl, SqL.of h1, h3⟩
  | xst xs => cases h; cases r with | xst h1 h3 => exact ⟨_, _, rfl, KL.sq h1, h3⟩
  | ref i =>
    simp only [asL] at h
    split at h
    · rename_i e
      cases h
      obtain ⟨a, rfl, _, vs, h1, h2⟩ := r.atRef hr e (by intro z; cases z)
      exact ⟨a, vs, rfl, SqL.of h1, h2⟩
    · cases h
  | _ => cases h
theorem asLM_ok {w : W} {v : V} {ws : List W} (hr : HR K Cl β H st) (r : RV K β H w v) (h : asLM w st = some ws) : ∃ p vs, v = .ref p ∧ H p = some (.lst vs) ∧ RVs K β H ws vs := by
  cases w with
  | lst xs => cases h; cases r with | lst h1 _ h3 => exact ⟨_, _, rfl, h1, h3⟩
  | ref i =>
    simp only [asLM] at h
    split at h
    · rename_i e
      cases h
      obtain ⟨a, rfl, _, vs, h1, h2⟩ := r.atRef hr e (by intro z; cases z)
      exact ⟨a, vs, rfl, h1, h2⟩
    · cases h
  | _ => cases h
theorem toPyS_dp {w : W} {v : V} {d : PyData} (hr : HR K Cl β H st) (r : RV K β H w v) (h : toPyS w st = some d) : Dp K H v d := by
  cases w with
  | ref i =>
    simp only [toPyS] at h
    split at h
    · rename_i e
      obtain ⟨a, rfl, _, vs, h1, h2⟩ := r.atRef hr e (by intro z; cases z)
      simp only [Option.map_eq_some_iff] at h
      obtain ⟨ds, h3, h4⟩ := h
      subst h4
      exact .lst (SqL.of h1) (toPys_dp h2 h3)
    · cases h
  | _ => exact toPy_dp r h
theorem RVs.emp {ws : List W} {vs : List V} (r : RVs K β H ws vs) : ws.isEmpty = vs.isEmpty := by cases r <;> rfl
theorem truth_ok {w : W} {v : V} {k : Bool} (hr : HR K Cl β H st) (r : RV K β H w v) (h : truth w st = some k) : TruV K v H k := by
  cases w with
  | non => cases h; cases r; rfl
  | bl b => cases h; cases r; rfl
  | int i => cases h; cases r; rfl
  | str x =>
    simp only [truth] at h
    split at h
    · cases h
      cases r
      exact ⟨by assumption, rfl⟩
    · cases h
  | tup xs => cases h; cases r with | tup h1 h2 => exact .inr (.inl ⟨_, h1, by rw [h2.emp]⟩)
  | lst xs => cases h; cases r with | lst h1 _ h2 => exact .inl ⟨_, SqL.of h1, by rw [h2.emp]⟩
  | xst xs => cases h; cases r with | xst h1 h2 => exact .inl ⟨_, KL.sq h1, by rw [h2.emp]⟩
  | ref i =>
    simp only [truth] at h
    split at h
    · rename_i e
      cases h
      obtain ⟨a, rfl, _, vs, h1, h2⟩ := r.atRef hr e (by intro z; cases z)
      exact .inl ⟨_, SqL.of h1, by rw [h2.emp]⟩
    · rename_i e
      cases h
      obtain ⟨a, rfl, _, vs, h1, h2⟩ := r.atRef hr e (by intro z; cases z)
      exact .inr (.inr ⟨_, h1, by cases h2 <;> rfl⟩)
    · cases h
theorem flat_v {w : W} {v : V} (r : RV K β H w v) (h : flatW w = true) : v = toV w ∧ flatV v = true := by
  cases r <;> first | exact ⟨rfl, rfl⟩ | cases h
theorem flat_vs : ∀ {ws : List W} {vs : List V}, RVs K β H ws vs → ws.all flatW = true → vs = ws.map toV ∧ vs.all flatV = true
  | _, _, .nil, _ => ⟨rfl, rfl⟩
  | _, _, .cons r rr, h => by
    simp only [List.all_cons, Bool.and_eq_true] at h
    obtain ⟨e, f⟩ := flat_v r h.1
    obtain ⟨e', f'⟩ := flat_vs rr h.2
    subst e e'
    exact ⟨rfl, by simp only [List.all_cons, Bool.and_eq_true]; exact ⟨f, f'⟩⟩
end

/-! ### names and constants -/
@[simp] def mVar (i : Nat) : ME := fun s st => match s[i]? with
  | some (some w) => .ok w st
  | _ => .stuck
@[simp] def mC (w : W) : ME := fun _ st => .ok w st
section
variable {X : Cx} {Cl : Nat → Addr} {E : XK} {pos : Pos}
theorem se_var {K : PySem.W.Frag} {i : Nat} : SE K Cl E (tVar i) (mVar i) := fun β H σ s st Q hr hs h => by
  unfold mVar at h
  split at h
  · rename_i w e
    obtain ⟨v, h1, h2⟩ := hs.2 i w e
    exact ⟨v, h1, PoG.val h hr h2⟩
  · exact h.elim
theorem je_var (i : Nat) {x : Str} (hN : X.N[i]? = some x := by rfl) (hv : Vis X.env.scope x := by first | exact Or.inl rfl | exact Or.inr (Or.inl rfl) | exact Or.inr (Or.inr rfl)) (hd : (x == ("__debug__" : Str)) = false := by decide)
    (hcd : (x == ("__classdict__" : Str)) = false := by decide) : JE X Cl E (.Name x pos) (mVar i) := ⟨_, pe_var hN hv hd hcd, se_var⟩
theorem se_c {K : PySem.W.Frag} {w : W} {v : V} (r : ∀ β H, RV K β H w v) : SE K Cl E (tC v) (mC w) := fun β H σ s st Q hr hs h => PoG.val h hr (r β H)
theorem je_int {i j} : JE X Cl E (.Constant (.int i) j pos) (mC (.int i)) := ⟨_, pe_int, se_c fun _ _ => .int i⟩
theorem je_bl {b j} : JE X Cl E (.Constant (.bool b) j pos) (mC (.bl b)) := ⟨_, pe_bl, se_c fun _ _ => .bl b⟩
theorem je_non {j} : JE X Cl E (.Constant .none j pos) (mC .non) := ⟨_, pe_non, se_c fun _ _ => .non⟩
theorem je_str {x j} : JE X Cl E (.Constant (.str x) j pos) (mC (.str x)) := ⟨_, pe_str, se_c fun _ _ => .str x⟩
/-- a constant of the module: what its name holds -/
structure GC (K : PySem.W.Frag) (mg : Str → Option Value) (x : Str) (w : W) : Prop where
  ex : ∃ u v, mg x = some u ∧ RelV v u ∧ ∀ β H, RV K β H w v
theorem je_glob {x : Str} {w : W} (g : GC X.K X.mg x w) (hg : Gl X x := by rfl) (hd : (x == ("__debug__" : Str)) = false := by decide) : JE X Cl E (.Name x pos) (mC w) := by
  obtain ⟨u, v, hm, r, hv⟩ := g.ex
  exact ⟨_, pe_glob hg hm r hd, se_c hv⟩
end

/-! ### operators -/
abbrev M2 := W → W → Sto → Out W
@[simp] def mOp (r : M2) (a b : ME) : ME := fun s st => (a s st).bind fun x st1 => (b s st1).bind fun y st2 => r x y st2
@[simp] def mUn (r : W → Sto → Out W) (a : ME) : ME := fun s st => (a s st).bind fun x st1 => r x st1
def SOp (K : PySem.W.Frag) (Cl : Nat → Addr) (E : XK) (r : R2) (m : M2) : Prop :=
  ∀ β H st x y v u Q, HR K Cl β H st → RV K β H x v → RV K β H y u → Po K Cl E β H Q (m x y st) → r v u H Q
def SUn (K : PySem.W.Frag) (Cl : Nat → Addr) (E : XK) (r : V → Hp → VK → Prop) (m : W → Sto → Out W) : Prop :=
  ∀ β H st x v Q, HR K Cl β H st → RV K β H x v → Po K Cl E β H Q (m x st) → r v H Q
section
variable {X : Cx} {Cl : Nat → Addr} {E : XK} {pos : Pos} {K : PySem.W.Frag} {ta tb : TE} {ma mb : ME} {a b : Expr}
theorem se_op {r : R2} {m : M2} (hm : SOp K Cl E r m) (ha : SE K Cl E ta ma) (hb : SE K Cl E tb mb) : SE K Cl E (tOp r ta tb) (mOp m ma mb) := fun β H σ s st Q hr hs h =>
  ha β H σ s st _ hr hs (h.bind fun x st1 β1 H1 v _ e1 hr1 rx h1 => hb β1 H1 σ s st1 _ hr1 (hs.ext e1) (h1.bind fun y st2 β2 H2 u _ e2 hr2 ry h2 => hm β2 H2 st2 x y v u Q hr2 (rx.ext e2) ry h2))
theorem se_un {r : V → Hp → VK → Prop} {m : W → Sto → Out W} (hm : SUn K Cl E r m) (ha : SE K Cl E ta ma) : SE K Cl E (tUn r ta) (mUn m ma) := fun β H σ s st Q hr hs h =>
  ha β H σ s st _ hr hs (h.bind fun x st1 β1 H1 v _ e1 hr1 rx h1 => hm β1 H1 st1 x v Q hr1 rx h1)
theorem je_op {op : Operator} {r : R2} {m : M2} (ho : OpR X (binaryOp op) r ∧ SOp X.K Cl E r m) (ha : JE X Cl E a ma) (hb : JE X Cl E b mb) : JE X Cl E (.BinOp a op b pos) (mOp m ma mb) := by
  obtain ⟨_, p1, q1⟩ := ha.ex
  obtain ⟨_, p2, q2⟩ := hb.ex
  exact ⟨_, pe_op ho.1 p1 p2, se_op ho.2 q1 q2⟩
theorem je_un {op : UnaryOp} {r : V → Hp → VK → Prop} {m : W → Sto → Out W} (ho : UnR X (unaryOp op) r ∧ SUn X.K Cl E r m) (ha : JE X Cl E a ma) : JE X Cl E (.UnaryOp op a pos) (mUn m ma) := by
  obtain ⟨_, p1, q1⟩ := ha.ex
  exact ⟨_, pe_un ho.1 p1, se_un ho.2 q1⟩
theorem je_cmp {op : CmpOp} {r : R2} {m : M2} (ho : OpR X (compareOp op) r ∧ SOp X.K Cl E r m) (ha : JE X Cl E a ma) (hb : JE X Cl E b mb) (hm : behindInMarks op b = false) : JE X Cl E (.Compare a [op] [b] pos) (mOp m ma mb) := by
  obtain ⟨_, p1, q1⟩ := ha.ex
  obtain ⟨_, p2, q2⟩ := hb.ex
  exact ⟨_, pe_cmpR ho.1 p1 p2 hm, se_op ho.2 q1 q2⟩
/-- a bool as a test -/
@[simp] def mTest (m : ME) : MT := fun s st => (m s st).bind fun x st1 => match x with
  | .bl k => .ok k st1
  | _ => .stuck
theorem st_test {t : TE} {m : ME} (h : SE K Cl E t m) : ST K Cl E (tTest t) (mTest m) := fun β H σ s st Q hr hs hp => h β H σ s st _ hr hs (hp.bind fun x st1 β1 H1 v _ e1 hr1 rx h1 => by
  cases x with
  | bl k => cases rx; exact ⟨k, rfl, PoG.val h1 hr1 rfl⟩
  | _ => exact h1.elim)
theorem jt_cmp {op : CmpOp} {r : R2} {m : M2} (ho : OpR X (compareOp op) r ∧ SOp X.K Cl E r m) (ha : JE X Cl E a ma) (hb : JE X Cl E b mb) (hm : behindInMarks op b = false) : JT X Cl E (.Compare a [op] [b] pos) (mTest (mOp m ma mb)) := by
  obtain ⟨_, p1, q1⟩ := ha.ex
  obtain ⟨_, p2, q2⟩ := hb.ex
  exact ⟨_, pt_cmpR ho.1 p1 p2 hm, st_test (se_op ho.2 q1 q2)⟩
/-- a value's truth as a test -/
@[simp] def mTru (m : ME) : MT := fun s st => (m s st).bind fun x st1 => match truth x st1 with
  | some k => .ok k st1
  | none => .stuck
theorem jt_tru (ha : JE X Cl E a ma) (he : ∀ whole, isTrue a X.env whole = (do let v ← whole; standAt a.pos; holding [v] (truthy v)) := by intro _; rfl) : JT X Cl E a (mTru ma) := by
  obtain ⟨t, p1, q1⟩ := ha.ex
  refine ⟨_, pt_truth p1 he, fun β H σ s st Q hr hs hp => q1 β H σ s st _ hr hs (hp.bind fun x st1 β1 H1 v _ e1 hr1 rx h1 => ?_)⟩
  split at h1
  · rename_i k e
    exact ⟨k, truth_ok hr1 rx e, PoG.val h1 hr1 rfl⟩
  · exact h1.elim
/-- a < b < c -/
@[simp] def mChain (r r' : M2) (a b c : ME) : ME := fun s st => (a s st).bind fun x st1 => (b s st1).bind fun y st2 => (r x y st2).bind fun z st3 => match z with
  | .bl true => (c s st3).bind fun w st4 => r' y w st4
  | .bl false => .ok (.bl false) st3
  | _ => .stuck
theorem se_chain {r r' : R2} {m m' : M2} {tc : TE} {mc : ME} (hm : SOp K Cl E r m) (hm' : SOp K Cl E r' m') (ha : SE K Cl E ta ma) (hb : SE K Cl E tb mb) (hc : SE K Cl E tc mc) : SE K Cl E (tChain r r' ta tb tc) (mChain m m' ma mb mc) := fun β H σ s st Q hr hs h =>
  ha β H σ s st _ hr hs (h.bind fun x st1 β1 H1 v _ e1 hr1 rx h1 => hb β1 H1 σ s st1 _ hr1 (hs.ext e1) (h1.bind fun y st2 β2 H2 u _ e2 hr2 ry h2 => hm β2 H2 st2 x y v u _ hr2 (rx.ext e2) ry (h2.bind fun z st3 β3 H3 zv _ e3 hr3 rz h3 => by
    cases z with
    | bl k =>
      cases rz
      refine ⟨k, rfl, ?_⟩
      cases k with
      | true => exact hc β3 H3 σ s st3 _ hr3 ((hs.ext e1).ext (e2.trans e3)) (h3.bind fun w st4 β4 H4 wv _ e4 hr4 rw h4 => hm' β4 H4 st4 y w u wv Q hr4 (ry.ext (e3.trans e4)) rw h4)
      | false => exact PoG.val h3 hr3 (.bl false)
    | _ => exact h3.elim)))
theorem je_chain {op op' : CmpOp} {r r' : R2} {m m' : M2} {c : Expr} {mc : ME} (ho : OpR X (compareOp op) r ∧ SOp X.K Cl E r m) (ho' : OpR X (compareOp op') r' ∧ SOp X.K Cl E r' m') (ha : JE X Cl E a ma) (hb : JE X Cl E b mb) (hc : JE X Cl E c mc) (hl : lastMarks [op, op'] [b, c] = false := by rfl) : JE X Cl E (.Compare a [op, op'] [b, c] pos) (mChain m m' ma mb mc) := by
  obtain ⟨_, p1, q1⟩ := ha.ex
  obtain ⟨_, p2, q2⟩ := hb.ex
  obtain ⟨_, p3, q3⟩ := hc.ex
  exact ⟨_, pe_chain ho.1 ho'.1 p1 p2 p3 (hm := hl), se_chain ho.2 ho'.2 q1 q2 q3⟩
end

/-! ### the operations by values -/
@[simp] def mAdd : M2 := fun x y st => match x, y with
  | .int i, .int j => .ok (.int (i + j)) st
  | .str a, .str b => if a.length + b.length ≤ sizeLine then .ok (.str (a ++ b)) st else .stuck
  | .tup a, .tup b => if a.length + b.length ≤ sizeLine then .ok (.tup (a ++ b)) st else .stuck
  | x, y => match asLM x st, asLM y st with
    | some a, some b => if a.length + b.length ≤ sizeLine then .ok (.lst (a ++ b)) st else .stuck
    | _, _ => .stuck
@[simp] def mSub : M2 := fun x y st => match x, y with
  | .int i, .int j => .ok (.int (i - j)) st
  | _, _ => .stuck
@[simp] def mulOk (i j : Int) : Bool := decide (i.natAbs < 2 ^ 64) || decide (j.natAbs < 2 ^ 64) || decide (i.natAbs.log2 + j.natAbs.log2 < 1000000)
@[simp] def mMul : M2 := fun x y st => match x, y with
  | .int i, .int j => if mulOk i j = true then .ok (.int (i * j)) st else .stuck
  | x, .int k => match asLM x st with
    | some a => if -(2 ^ 63) ≤ k ∧ k < 2 ^ 63 ∧ a.length * k.toNat ≤ sizeLine then .ok (.lst (List.replicate k.toNat a).flatten) st else .stuck
    | none => .stuck
  | _, _ => .stuck
@[simp] def mFdiv : M2 := fun x y st => match x, y with
  | .int i, .int j => if 0 < j ∧ j.natAbs.log2 < 9000 then .ok (.int (i / j)) st else .stuck
  | _, _ => .stuck
@[simp] def mMod : M2 := fun x y st => match x, y with
  | .int i, .int j => if 0 < j then .ok (.int (i % j)) st else .stuck
  | _, _ => .stuck
@[simp] def mPow : M2 := fun x y st => match x, y with
  | .int i, .int j => if 0 ≤ j ∧ j ≤ 1000000 ∧ i.natAbs < 2 ^ 64 then .ok (.int (i ^ j.toNat)) st else .stuck
  | _, _ => .stuck
@[simp] def mShl : M2 := fun x y st => match x, y with
  | .int i, .int j => if 0 ≤ j ∧ j ≤ 1000000 ∧ i.natAbs < 2 ^ 64 then .ok (.int (i * 2 ^ j.toNat)) st else .stuck
  | _, _ => .stuck
@[simp] def mShr : M2 := fun x y st => match x, y with
  | .int i, .int j => if 0 ≤ j then .ok (.int (i / 2 ^ j.toNat)) st else .stuck
  | _, _ => .stuck
@[simp] def mXor : M2 := fun x y st => match x, y with
  | .int i, .int j => .ok (.int (Builtin.bitXor i j)) st
  | _, _ => .stuck
@[simp] def mLt : M2 := fun x y st => match x, y with
  | .int i, .int j => .ok (.bl (decide (i < j))) st
  | _, _ => .stuck
@[simp] def mLe : M2 := fun x y st => match x, y with
  | .int i, .int j => .ok (.bl (decide (i ≤ j))) st
  | _, _ => .stuck
@[simp] def mGt : M2 := fun x y st => match x, y with
  | .int i, .int j => .ok (.bl (decide (j < i))) st
  | _, _ => .stuck
@[simp] def mGe : M2 := fun x y st => match x, y with
  | .int i, .int j => .ok (.bl (decide (j ≤ i))) st
  | _, _ => .stuck
@[simp] def mEq : M2 := fun x y st => match toPyS x st, toPyS y st with
  | some d, some e => if SeqAt.shaped d = true ∧ SeqAt.shaped e = true then .ok (.bl (PyData.eqv d e)) st else .stuck
  | _, _ => .stuck
@[simp] def mNe : M2 := fun x y st => match toPyS x st, toPyS y st with
  | some d, some e => if SeqAt.shaped d = true ∧ SeqAt.shaped e = true then .ok (.bl (!PyData.eqv d e)) st else .stuck
  | _, _ => .stuck
/-- is x in y -/
@[simp] def isIn (x y : W) (st : Sto) : Option Bool := match x, y with
  | x, .tup ws => if flatW x = true ∧ ws.all flatW = true then some (inV (toV x) (ws.map toV)) else none
  | .str a, .str b => some (!(Builtin.Str.occurrences b a 0 b.length 1).isEmpty)
  | x, y => match toPyS x st, toPyS y st with
    | some d, some (.list ds) => if SeqAt.shaped d = true ∧ SeqAt.shaped (.list ds) = true then some (ds.any fun z => PyData.eqv z d) else none
    | _, _ => none
@[simp] def mIn : M2 := fun x y st => match isIn x y st with
  | some b => .ok (.bl b) st
  | none => .stuck
@[simp] def mNotIn : M2 := fun x y st => match isIn x y st with
  | some b => .ok (.bl (!b)) st
  | none => .stuck
@[simp] def nonW (w : W) (st : Sto) : Option Bool := match w with
  | .non => some true
  | .ref i => match st[i]? with
    | some .dead => none
    | some _ => some false
    | none => none
  | _ => some false
@[simp] def mIsN : M2 := fun x y st => match y, nonW x st with
  | .non, some b => .ok (.bl b) st
  | _, _ => .stuck
@[simp] def mNotN : M2 := fun x y st => match y, nonW x st with
  | .non, some b => .ok (.bl (!b)) st
  | _, _ => .stuck
@[simp] def mIsB : M2 := fun x y st => match x, y with
  | .bl a, .bl b => .ok (.bl (decide (a = b))) st
  | _, _ => .stuck
@[simp] def mNotB : M2 := fun x y st => match x, y with
  | .bl a, .bl b => .ok (.bl (!decide (a = b))) st
  | _, _ => .stuck

theorem SOp.or1 {K : PySem.W.Frag} {Cl : Nat → Addr} {E : XK} {r r' : R2} {m : M2} (h : ∀ β H st x y v u Q, HR K Cl β H st → RV K β H x v → RV K β H y u → Po K Cl E β H Q (m x y st) → r v u H Q ∨ r' v u H Q) : SOp K Cl E (fun x y H Q => r x y H Q ∨ r' x y H Q) m := h

section
variable {X : Cx} {Cl : Nat → Addr} {E : XK}
theorem RV.new {K : PySem.W.Frag} {β : Bt} {H : Hp} {p : Addr} {ws : List W} {vs : List V} {st : Sto} (hr : HR K Cl β H st) (hp : H p = none) (r : RVs K β H ws vs) : RV K β (upd H p (.lst vs)) (.lst ws) (.ref p) :=
  .lst upd_same (hr.fresh hp) (r.ext (Ext.new hp))
theorem RV.newT {K : PySem.W.Frag} {β : Bt} {H : Hp} {p : Addr} {ws : List W} {vs : List V} (hp : H p = none) (r : RVs K β H ws vs) : RV K β (upd H p (.tup vs)) (.tup ws) (.ref p) :=
  .tup (SqT.of upd_same) (r.ext (Ext.new hp))
theorem Po.lst {K : PySem.W.Frag} {β : Bt} {H : Hp} {p : Addr} {ws : List W} {vs : List V} {st : Sto} {Q : VK} (h : Po K Cl E β H Q (.ok (.lst ws) st)) (hr : HR K Cl β H st) (hp : H p = none) (r : RVs K β H ws vs) : Q (.ref p) (upd H p (.lst vs)) :=
  h β _ _ (Ext.new hp) (hr.new hp) (RV.new hr hp r)
theorem Po.tup {K : PySem.W.Frag} {β : Bt} {H : Hp} {p : Addr} {ws : List W} {vs : List V} {st : Sto} {Q : VK} (h : Po K Cl E β H Q (.ok (.tup ws) st)) (hr : HR K Cl β H st) (hp : H p = none) (r : RVs K β H ws vs) : Q (.ref p) (upd H p (.tup vs)) :=
  h β _ _ (Ext.new hp) (hr.new hp) (RV.newT hp r)

theorem o_add : OpR X (binaryOp .Add) (fun x y H Q => rI0 (fun i j => .int (i + j)) x y H Q ∨ (∃ i j, x = .str i ∧ y = .str j ∧ i.length + j.length ≤ sizeLine ∧ Q (.str (i ++ j)) H) ∨ rCatA X.K x y H Q ∨ rCat x y H Q) ∧
    SOp X.K Cl E (fun x y H Q => rI0 (fun i j => .int (i + j)) x y H Q ∨ (∃ i j, x = .str i ∧ y = .str j ∧ i.length + j.length ≤ sizeLine ∧ Q (.str (i ++ j)) H) ∨ rCatA X.K x y H Q ∨ rCat x y H Q) mAdd := by
  refine ⟨op_add.or (op_add_str.or (op_catA.or op_cat)), fun β H st x y v u Q hr rx ry h => ?_⟩
  unfold mAdd at h
  split at h
  · cases rx; cases ry
    exact .inl ⟨_, _, rfl, rfl, PoG.val h hr (.int _)⟩
  · split at h
    · cases rx; cases ry
      exact .inr (.inl ⟨_, _, rfl, rfl, by assumption, PoG.val h hr (.str _)⟩)
    · exact h.elim
  · split at h
    · rename_i hz
      cases rx with
      | tup h1 r1 =>
        cases ry with
        | tup h2 r2 =>
          rename_i p vs q us
          refine .inr (.inr (.inl ⟨p, q, vs, us, rfl, rfl, h1, h2, by rw [← r1.length, ← r2.length]; exact hz, fun e => ?_, fun _ e => ?_, fun _ _ l hl => Po.tup h hr hl (r1.append r2)⟩))
          · subst e
            cases r1
            exact PoG.val h hr (.tup h2 r2)
          · subst e
            cases r2
            rw [List.append_nil] at h
            exact PoG.val h hr (.tup h1 r1)
    · exact h.elim
  · split at h
    · split at h
      · rename_i e1 e2 hz
        obtain ⟨p, vs, rfl, h1, r1⟩ := asLM_ok hr rx e1
        obtain ⟨q, us, rfl, h2, r2⟩ := asLM_ok hr ry e2
        exact .inr (.inr (.inr ⟨p, q, vs, us, rfl, rfl, h1, h2, by rw [← r1.length, ← r2.length]; exact hz, fun l hl => Po.lst h hr hl (r1.append r2)⟩))
      · exact h.elim
    · exact h.elim
theorem o_sub : OpR X (binaryOp .Sub) (rI0 fun i j => .int (i - j)) ∧ SOp X.K Cl E (rI0 fun i j => .int (i - j)) mSub := by
  refine ⟨op_sub, fun β H st x y v u Q hr rx ry h => ?_⟩
  unfold mSub at h
  split at h
  · cases rx; cases ry
    exact ⟨_, _, rfl, rfl, PoG.val h hr (.int _)⟩
  · exact h.elim
theorem o_mul : OpR X (binaryOp .Mult) (fun x y H Q => rI CMul (fun i j => .int (i * j)) x y H Q ∨ rI CMulW (fun i j => .int (i * j)) x y H Q ∨ rRep x y H Q) ∧
    SOp X.K Cl E (fun x y H Q => rI CMul (fun i j => .int (i * j)) x y H Q ∨ rI CMulW (fun i j => .int (i * j)) x y H Q ∨ rRep x y H Q) mMul := by
  refine ⟨op_mul.or (op_mulW.or op_rep), fun β H st x y v u Q hr rx ry h => ?_⟩
  unfold mMul at h
  split at h
  · split at h
    · rename_i hz
      cases rx; cases ry
      simp only [mulOk, Bool.or_eq_true, decide_eq_true_eq] at hz
      rcases hz with (hz | hz) | hz
      · exact .inl ⟨_, _, rfl, rfl, .inl (by omega), PoG.val h hr (.int _)⟩
      · exact .inl ⟨_, _, rfl, rfl, .inr (by omega), PoG.val h hr (.int _)⟩
      · exact .inr (.inl ⟨_, _, rfl, rfl, hz, PoG.val h hr (.int _)⟩)
    · exact h.elim
  · split at h
    · split at h
      · rename_i e1 hz
        obtain ⟨p, vs, rfl, h1, r1⟩ := asLM_ok hr rx e1
        cases ry
        exact .inr (.inr ⟨p, _, vs, rfl, rfl, h1, hz.1, hz.2.1, by rw [← r1.length]; exact hz.2.2, fun l hl => Po.lst h hr hl (r1.rep _)⟩)
      · exact h.elim
    · exact h.elim
  · exact h.elim
theorem sop_int {C : Int → Int → Prop} {g : Int → Int → V} {m : M2} {K : PySem.W.Frag} (h : ∀ x y st, (∃ i j o w, x = .int i ∧ y = .int j ∧ C i j ∧ m x y st = .ok w o ∧ o = st ∧ ∀ β H, RV K β H w (g i j)) ∨ m x y st = .stuck) : SOp K Cl E (rI C g) m := fun β H st x y v u Q hr rx ry hp => by
  rcases h x y st with ⟨i, j, o, w, rfl, rfl, hc, e, rfl, rv⟩ | e
  · rw [e] at hp
    cases rx; cases ry
    exact ⟨i, j, rfl, rfl, hc, PoG.val hp hr (rv β H)⟩
  · rw [e] at hp
    exact hp.elim
theorem sop_int0 {g : Int → Int → V} {m : M2} {K : PySem.W.Frag} (h : ∀ x y st, (∃ i j o w, x = .int i ∧ y = .int j ∧ m x y st = .ok w o ∧ o = st ∧ ∀ β H, RV K β H w (g i j)) ∨ m x y st = .stuck) : SOp K Cl E (rI0 g) m := fun β H st x y v u Q hr rx ry hp => by
  rcases h x y st with ⟨i, j, o, w, rfl, rfl, e, rfl, rv⟩ | e
  · rw [e] at hp
    cases rx; cases ry
    exact ⟨i, j, rfl, rfl, PoG.val hp hr (rv β H)⟩
  · rw [e] at hp
    exact hp.elim
theorem o_fdiv : OpR X (binaryOp .FloorDiv) (rI CDivW fun i j => .int (i / j)) ∧ SOp X.K Cl E (rI CDivW fun i j => .int (i / j)) mFdiv := by
  refine ⟨op_fdivW, sop_int fun x y st => ?_⟩
  unfold mFdiv
  split
  · split
    · exact .inl ⟨_, _, _, _, rfl, rfl, by assumption, rfl, rfl, fun _ _ => .int _⟩
    · exact .inr rfl
  · exact .inr rfl
theorem o_mod : OpR X (binaryOp .Mod) (rI (fun _ j => 0 < j) fun i j => .int (i % j)) ∧ SOp X.K Cl E (rI (fun _ j => 0 < j) fun i j => .int (i % j)) mMod := by
  refine ⟨op_mod, sop_int fun x y st => ?_⟩
  unfold mMod
  split
  · split
    · exact .inl ⟨_, _, _, _, rfl, rfl, by assumption, rfl, rfl, fun _ _ => .int _⟩
    · exact .inr rfl
  · exact .inr rfl
theorem o_pow : OpR X (binaryOp .Pow) (rI CPow fun i j => .int (i ^ j.toNat)) ∧ SOp X.K Cl E (rI CPow fun i j => .int (i ^ j.toNat)) mPow := by
  refine ⟨op_pow, sop_int fun x y st => ?_⟩
  unfold mPow
  split
  · split
    · exact .inl ⟨_, _, _, _, rfl, rfl, by assumption, rfl, rfl, fun _ _ => .int _⟩
    · exact .inr rfl
  · exact .inr rfl
theorem o_shl : OpR X (binaryOp .LShift) (rI CPow fun i j => .int (i * 2 ^ j.toNat)) ∧ SOp X.K Cl E (rI CPow fun i j => .int (i * 2 ^ j.toNat)) mShl := by
  refine ⟨op_shl, sop_int fun x y st => ?_⟩
  unfold mShl
  split
  · split
    · exact .inl ⟨_, _, _, _, rfl, rfl, by assumption, rfl, rfl, fun _ _ => .int _⟩
    · exact .inr rfl
  · exact .inr rfl
theorem o_shr : OpR X (binaryOp .RShift) (rI (fun _ j => 0 ≤ j) fun i j => .int (i / 2 ^ j.toNat)) ∧ SOp X.K Cl E (rI (fun _ j => 0 ≤ j) fun i j => .int (i / 2 ^ j.toNat)) mShr := by
  refine ⟨op_shr, sop_int fun x y st => ?_⟩
  unfold mShr
  split
  · split
    · exact .inl ⟨_, _, _, _, rfl, rfl, by assumption, rfl, rfl, fun _ _ => .int _⟩
    · exact .inr rfl
  · exact .inr rfl
theorem o_xor : OpR X (binaryOp .BitXor) (rI0 fun i j => .int (Builtin.bitXor i j)) ∧ SOp X.K Cl E (rI0 fun i j => .int (Builtin.bitXor i j)) mXor := by
  refine ⟨op_xor, sop_int0 fun x y st => ?_⟩
  unfold mXor
  split
  · exact .inl ⟨_, _, _, _, rfl, rfl, rfl, rfl, fun _ _ => .int _⟩
  · exact .inr rfl
theorem o_lt : OpR X (compareOp .Lt) (rI0 fun i j => .bl (decide (i < j))) ∧ SOp X.K Cl E (rI0 fun i j => .bl (decide (i < j))) mLt := by
  refine ⟨op_lt, sop_int0 fun x y st => ?_⟩
  unfold mLt
  split
  · exact .inl ⟨_, _, _, _, rfl, rfl, rfl, rfl, fun _ _ => .bl _⟩
  · exact .inr rfl
theorem o_le : OpR X (compareOp .LtE) (rI0 fun i j => .bl (decide (i ≤ j))) ∧ SOp X.K Cl E (rI0 fun i j => .bl (decide (i ≤ j))) mLe := by
  refine ⟨op_le, sop_int0 fun x y st => ?_⟩
  unfold mLe
  split
  · exact .inl ⟨_, _, _, _, rfl, rfl, rfl, rfl, fun _ _ => .bl _⟩
  · exact .inr rfl
theorem o_gt : OpR X (compareOp .Gt) (rI0 fun i j => .bl (decide (j < i))) ∧ SOp X.K Cl E (rI0 fun i j => .bl (decide (j < i))) mGt := by
  refine ⟨op_gt, sop_int0 fun x y st => ?_⟩
  unfold mGt
  split
  · exact .inl ⟨_, _, _, _, rfl, rfl, rfl, rfl, fun _ _ => .bl _⟩
  · exact .inr rfl
theorem o_ge : OpR X (compareOp .GtE) (rI0 fun i j => .bl (decide (j ≤ i))) ∧ SOp X.K Cl E (rI0 fun i j => .bl (decide (j ≤ i))) mGe := by
  refine ⟨op_ge, sop_int0 fun x y st => ?_⟩
  unfold mGe
  split
  · exact .inl ⟨_, _, _, _, rfl, rfl, rfl, rfl, fun _ _ => .bl _⟩
  · exact .inr rfl
theorem o_eq (hu : X.A.units + 65 < cLine) : OpR X (compareOp .Eq) (rEqD X.K) ∧ SOp X.K Cl E (rEqD X.K) mEq := by
  refine ⟨op_eqD (by omega), fun β H st x y v u Q hr rx ry h => ?_⟩
  unfold mEq at h
  split at h
  · rename_i d e h1 h2
    split at h
    · rename_i hz
      exact ⟨d, e, toPyS_dp hr rx h1, toPyS_dp hr ry h2, hz.1, hz.2, PoG.val h hr (.bl _)⟩
    · exact h.elim
  · exact h.elim
theorem o_ne (hu : X.A.units + 65 < cLine) : OpR X (compareOp .NotEq) (rNeD X.K) ∧ SOp X.K Cl E (rNeD X.K) mNe := by
  refine ⟨op_neD (by omega), fun β H st x y v u Q hr rx ry h => ?_⟩
  unfold mNe at h
  split at h
  · rename_i d e h1 h2
    split at h
    · rename_i hz
      exact ⟨d, e, toPyS_dp hr rx h1, toPyS_dp hr ry h2, hz.1, hz.2, PoG.val h hr (.bl _)⟩
    · exact h.elim
  · exact h.elim
def rInA (K : PySem.W.Frag) : R2 := fun x y H Q => rIn K false x y H Q ∨ (∃ i j, x = .str i ∧ y = .str j ∧ Q (.bl (!(Builtin.Str.occurrences j i 0 j.length 1).isEmpty)) H) ∨ rInD K x y H Q
def rNotInA (K : PySem.W.Frag) : R2 := fun x y H Q => rIn K true x y H Q ∨ (∃ i j, x = .str i ∧ y = .str j ∧ Q (.bl (!(!(Builtin.Str.occurrences j i 0 j.length 1).isEmpty))) H) ∨ rNotInD K x y H Q
theorem isIn_ok {K : PySem.W.Frag} {β : Bt} {H : Hp} {st : Sto} {x y : W} {v u : V} {b : Bool} (hr : HR K Cl β H st) (rx : RV K β H x v) (ry : RV K β H y u) (h : isIn x y st = some b) :
    (∃ p xs, u = .ref p ∧ (SqL K H p xs ∨ SqT K H p xs) ∧ flatV v = true ∧ xs.all flatV = true ∧ inV v xs = b) ∨ (∃ i j, v = .str i ∧ u = .str j ∧ (!(Builtin.Str.occurrences j i 0 j.length 1).isEmpty) = b) ∨
      (∃ d ds, Dp K H v d ∧ Dp K H u (.list ds) ∧ SeqAt.shaped d = true ∧ SeqAt.shaped (.list ds) = true ∧ (ds.any fun z => PyData.eqv z d) = b) := by
  unfold isIn at h
  split at h
  · split at h
    · rename_i hz
      cases h
      cases ry with
      | tup h1 r1 =>
        obtain ⟨e, f⟩ := flat_v rx hz.1
        obtain ⟨e', f'⟩ := flat_vs r1 hz.2
        subst e e'
        exact .inl ⟨_, _, rfl, .inr h1, f, f', rfl⟩
    · cases h
  · cases h
    cases rx; cases ry
    exact .inr (.inl ⟨_, _, rfl, rfl, rfl⟩)
  · split at h
    · rename_i h1 h2
      split at h
      · rename_i hz
        cases h
        exact .inr (.inr ⟨_, _, toPyS_dp hr rx h1, toPyS_dp hr ry h2, hz.1, hz.2, rfl⟩)
      · cases h
    · cases h
theorem o_in (hu : X.A.units + 65 < cLine) : OpR X (compareOp .In) (rInA X.K) ∧ SOp X.K Cl E (rInA X.K) mIn := by
  refine ⟨op_in_seq.or (op_in_str.or (op_inD hu)), fun β H st x y v u Q hr rx ry h => ?_⟩
  unfold mIn at h
  split at h
  · rename_i b e
    rcases isIn_ok hr rx ry e with ⟨p, xs, e1, e2, e3, e4, e5⟩ | ⟨i, j, e1, e2, e3⟩ | ⟨d, ds, e1, e2, e3, e4, e5⟩
    · exact .inl ⟨p, xs, e1, e2, e3, e4, by rw [if_neg Bool.false_ne_true, e5]; exact PoG.val h hr (.bl b)⟩
    · exact .inr (.inl ⟨i, j, e1, e2, by rw [e3]; exact PoG.val h hr (.bl b)⟩)
    · exact .inr (.inr ⟨d, ds, e1, e2, e3, e4, by rw [e5]; exact PoG.val h hr (.bl b)⟩)
  · exact h.elim
theorem o_notIn (hu : X.A.units + 65 < cLine) : OpR X (compareOp .NotIn) (rNotInA X.K) ∧ SOp X.K Cl E (rNotInA X.K) mNotIn := by
  refine ⟨op_notIn_seq.or (op_notin_str.or (op_notInD hu)), fun β H st x y v u Q hr rx ry h => ?_⟩
  unfold mNotIn at h
  split at h
  · rename_i b e
    rcases isIn_ok hr rx ry e with ⟨p, xs, e1, e2, e3, e4, e5⟩ | ⟨i, j, e1, e2, e3⟩ | ⟨d, ds, e1, e2, e3, e4, e5⟩
    · exact .inl ⟨p, xs, e1, e2, e3, e4, by rw [if_pos rfl, e5]; exact PoG.val h hr (.bl _)⟩
    · exact .inr (.inl ⟨i, j, e1, e2, by rw [e3]; exact PoG.val h hr (.bl _)⟩)
    · exact .inr (.inr ⟨d, ds, e1, e2, e3, e4, by rw [e5]; exact PoG.val h hr (.bl _)⟩)
  · exact h.elim
theorem nonW_ok {K : PySem.W.Frag} {β : Bt} {H : Hp} {st : Sto} {x : W} {v : V} {b : Bool} (hr : HR K Cl β H st) (rx : RV K β H x v) (h : nonW x st = some b) : decide (v = .non) = b := by
  cases x with
  | ref i =>
    simp only [nonW] at h
    split at h
    · cases h
    · rename_i ob hd e
      cases h
      obtain ⟨a, rfl, _⟩ := rx.atRef hr e hd
      rfl
    · cases h
  | _ => cases h; cases rx; rfl
theorem o_isN : OpR X (compareOp .Is) (fun x y H Q => y = .non ∧ Q (.bl (decide (x = .non))) H) ∧ SOp X.K Cl E (fun x y H Q => y = .non ∧ Q (.bl (decide (x = .non))) H) mIsN := by
  refine ⟨op_isN, fun β H st x y v u Q hr rx ry h => ?_⟩
  unfold mIsN at h
  split at h
  · rename_i b e
    cases ry
    exact ⟨rfl, by rw [nonW_ok hr rx e]; exact PoG.val h hr (.bl b)⟩
  · exact h.elim
theorem o_notN : OpR X (compareOp .IsNot) (fun x y H Q => y = .non ∧ Q (.bl (!decide (x = .non))) H) ∧ SOp X.K Cl E (fun x y H Q => y = .non ∧ Q (.bl (!decide (x = .non))) H) mNotN := by
  refine ⟨op_notN, fun β H st x y v u Q hr rx ry h => ?_⟩
  unfold mNotN at h
  split at h
  · rename_i b e
    cases ry
    exact ⟨rfl, by rw [nonW_ok hr rx e]; exact PoG.val h hr (.bl _)⟩
  · exact h.elim
theorem o_isB : OpR X (compareOp .Is) rIsB ∧ SOp X.K Cl E rIsB mIsB := by
  refine ⟨op_isBl, fun β H st x y v u Q hr rx ry h => ?_⟩
  unfold mIsB at h
  split at h
  · cases rx; cases ry
    exact ⟨_, _, rfl, rfl, PoG.val h hr (.bl _)⟩
  · exact h.elim
theorem o_notB : OpR X (compareOp .IsNot) rNotB ∧ SOp X.K Cl E rNotB mNotB := by
  refine ⟨op_notBl, fun β H st x y v u Q hr rx ry h => ?_⟩
  unfold mNotB at h
  split at h
  · cases rx; cases ry
    exact ⟨_, _, rfl, rfl, PoG.val h hr (.bl _)⟩
  · exact h.elim
@[simp] def mNeg : W → Sto → Out W := fun x st => match x with
  | .int i => .ok (.int (-i)) st
  | _ => .stuck
theorem u_neg : UnR X (unaryOp .USub) (rU fun i => .int (-i)) ∧ SUn X.K Cl E (rU fun i => .int (-i)) mNeg := by
  refine ⟨un_neg, fun β H st x v Q hr rx h => ?_⟩
  unfold mNeg at h
  split at h
  · cases rx
    exact ⟨_, rfl, PoG.val h hr (.int _)⟩
  · exact h.elim
end
end Mi
/-! The mirror layer, part D: truth, displays, subscripts, fields, built-in calls, dicts. -/
namespace Mi
open PySem L2

/-! ### and, or, not; a if t else b -/
@[simp] def mAndV (a b : ME) : ME := fun s st => (a s st).bind fun x st1 => match truth x st1 with
  | some true => b s st1
  | some false => .ok x st1
  | none => .stuck
@[simp] def mOrV (a b : ME) : ME := fun s st => (a s st).bind fun x st1 => match truth x st1 with
  | some true => .ok x st1
  | some false => b s st1
  | none => .stuck
@[simp] def mNotV (a : ME) : ME := fun s st => (a s st).bind fun x st1 => match truth x st1 with
  | some k => .ok (.bl (!k)) st1
  | none => .stuck
@[simp] def mTAnd (t u : MT) : MT := fun s st => (t s st).bind fun k st1 => if k = true then u s st1 else .ok false st1
@[simp] def mTOr (t u : MT) : MT := fun s st => (t s st).bind fun k st1 => if k = true then .ok true st1 else u s st1
@[simp] def mTNot (t : MT) : MT := fun s st => (t s st).bind fun k st1 => .ok (!k) st1
@[simp] def mIf (t : MT) (a b : ME) : ME := fun s st => (t s st).bind fun k st1 => if k = true then a s st1 else b s st1
section
variable {X : Cx} {Cl : Nat → Addr} {E : XK} {pos : Pos} {ma mb : ME} {ta tb : MT} {a b c : Expr} {rest : List Expr}
theorem je_one {op} (h : JE X Cl E a ma) : JE X Cl E (.BoolOp op [a] pos) ma := by
  obtain ⟨t, p, q⟩ := h.ex
  exact ⟨t, pe_one p, q⟩
theorem je_and (ha : JE X Cl E a ma) (hb : JE X Cl E (.BoolOp .And (b :: rest) pos) mb) : JE X Cl E (.BoolOp .And (a :: b :: rest) pos) (mAndV ma mb) := by
  obtain ⟨t1, p1, q1⟩ := ha.ex
  obtain ⟨t2, p2, q2⟩ := hb.ex
  refine ⟨_, pe_andT p1 p2, fun β H σ s st Q hr hs h => q1 β H σ s st _ hr hs (h.bind fun x st1 β1 H1 v _ e1 hr1 rx h1 => ?_)⟩
  split at h1
  · rename_i e
    refine ⟨true, truth_ok hr1 rx e, ?_⟩
    rw [if_pos rfl]
    exact q2 β1 H1 σ s st1 Q hr1 (hs.ext e1) h1
  · rename_i e
    refine ⟨false, truth_ok hr1 rx e, ?_⟩
    rw [if_neg Bool.false_ne_true]
    exact PoG.val h1 hr1 rx
  · exact h1.elim
theorem je_or (ha : JE X Cl E a ma) (hb : JE X Cl E (.BoolOp .Or (b :: rest) pos) mb) : JE X Cl E (.BoolOp .Or (a :: b :: rest) pos) (mOrV ma mb) := by
  obtain ⟨t1, p1, q1⟩ := ha.ex
  obtain ⟨t2, p2, q2⟩ := hb.ex
  refine ⟨_, pe_orT p1 p2, fun β H σ s st Q hr hs h => q1 β H σ s st _ hr hs (h.bind fun x st1 β1 H1 v _ e1 hr1 rx h1 => ?_)⟩
  split at h1
  · rename_i e
    refine ⟨true, truth_ok hr1 rx e, ?_⟩
    rw [if_pos rfl]
    exact PoG.val h1 hr1 rx
  · rename_i e
    refine ⟨false, truth_ok hr1 rx e, ?_⟩
    rw [if_neg Bool.false_ne_true]
    exact q2 β1 H1 σ s st1 Q hr1 (hs.ext e1) h1
  · exact h1.elim
theorem je_not (ha : JE X Cl E a ma) : JE X Cl E (.UnaryOp .Not a pos) (mNotV ma) := by
  obtain ⟨t1, p1, q1⟩ := ha.ex
  refine ⟨_, pe_notT p1, fun β H σ s st Q hr hs h => q1 β H σ s st _ hr hs (h.bind fun x st1 β1 H1 v _ e1 hr1 rx h1 => ?_)⟩
  split at h1
  · rename_i k e
    exact ⟨k, truth_ok hr1 rx e, PoG.val h1 hr1 (.bl _)⟩
  · exact h1.elim
theorem jt_w (h : JW X Cl E a ta) : JT X Cl E a ta := by
  obtain ⟨t, p, q⟩ := h.ex
  exact ⟨t, p.pt, q⟩
theorem jw_and1 (h : JT X Cl E a ta) : JW X Cl E (.BoolOp .And [a] pos) ta := by
  obtain ⟨t, p, q⟩ := h.ex
  exact ⟨t, pw_and1 p, q⟩
theorem jw_or1 (h : JT X Cl E a ta) : JW X Cl E (.BoolOp .Or [a] pos) ta := by
  obtain ⟨t, p, q⟩ := h.ex
  exact ⟨t, pw_or1 p, q⟩
theorem jw_and (ha : JT X Cl E a ta) (hb : JW X Cl E (.BoolOp .And (b :: rest) pos) tb) : JW X Cl E (.BoolOp .And (a :: b :: rest) pos) (mTAnd ta tb) := by
  obtain ⟨t1, p1, q1⟩ := ha.ex
  obtain ⟨t2, p2, q2⟩ := hb.ex
  refine ⟨_, pw_and p1 p2, fun β H σ s st Q hr hs h => q1 β H σ s st _ hr hs (h.bind fun x st1 β1 H1 v _ e1 hr1 rx h1 => ?_)⟩
  cases rx
  cases x with
  | true => rw [if_pos rfl] at h1 ⊢; exact q2 β1 H1 σ s st1 Q hr1 (hs.ext e1) h1
  | false => rw [if_neg Bool.false_ne_true] at h1 ⊢; exact PoG.val h1 hr1 rfl
theorem jw_or (ha : JT X Cl E a ta) (hb : JW X Cl E (.BoolOp .Or (b :: rest) pos) tb) : JW X Cl E (.BoolOp .Or (a :: b :: rest) pos) (mTOr ta tb) := by
  obtain ⟨t1, p1, q1⟩ := ha.ex
  obtain ⟨t2, p2, q2⟩ := hb.ex
  refine ⟨_, pw_or p1 p2, fun β H σ s st Q hr hs h => q1 β H σ s st _ hr hs (h.bind fun x st1 β1 H1 v _ e1 hr1 rx h1 => ?_)⟩
  cases rx
  cases x with
  | true => rw [if_pos rfl] at h1 ⊢; exact PoG.val h1 hr1 rfl
  | false => rw [if_neg Bool.false_ne_true] at h1 ⊢; exact q2 β1 H1 σ s st1 Q hr1 (hs.ext e1) h1
theorem jt_not (ha : JT X Cl E a ta) : JT X Cl E (.UnaryOp .Not a pos) (mTNot ta) := by
  obtain ⟨t1, p1, q1⟩ := ha.ex
  refine ⟨_, pt_not p1, fun β H σ s st Q hr hs h => q1 β H σ s st _ hr hs (h.bind fun x st1 β1 H1 v _ e1 hr1 rx h1 => ?_)⟩
  cases rx
  exact PoG.val h1 hr1 rfl
theorem je_if (hc : JT X Cl E c ta) (ha : JE X Cl E a ma) (hb : JE X Cl E b mb) : JE X Cl E (.IfExp c a b pos) (mIf ta ma mb) := by
  obtain ⟨t1, p1, q1⟩ := hc.ex
  obtain ⟨t2, p2, q2⟩ := ha.ex
  obtain ⟨t3, p3, q3⟩ := hb.ex
  refine ⟨_, pe_ifExp p1 p2 p3, fun β H σ s st Q hr hs h => q1 β H σ s st _ hr hs (h.bind fun x st1 β1 H1 v _ e1 hr1 rx h1 => ?_)⟩
  cases rx
  cases x with
  | true => rw [if_pos rfl] at h1 ⊢; exact q2 β1 H1 σ s st1 Q hr1 (hs.ext e1) h1
  | false => rw [if_neg Bool.false_ne_true] at h1 ⊢; exact q3 β1 H1 σ s st1 Q hr1 (hs.ext e1) h1
end

/-! ### argument lists, displays -/
@[simp] def mNil : MA := fun _ st => .ok [] st
@[simp] def mCons (a : ME) (r : MA) : MA := fun s st => (a s st).bind fun x st1 => (r s st1).bind fun xs st2 => .ok (x :: xs) st2
@[simp] def mTup (a : MA) : ME := fun s st => (a s st).bind fun xs st1 => if xs.length ≤ sizeLine then .ok (.tup xs) st1 else .stuck
@[simp] def mLst (a : MA) : ME := fun s st => (a s st).bind fun xs st1 => if xs.length ≤ sizeLine then .ok (.lst xs) st1 else .stuck
/-- a list that will be changed -/
@[simp] def mLstS (a : MA) : ME := fun s st => (a s st).bind fun xs st1 => if xs.length ≤ sizeLine then .ok (.ref st1.length) (st1 ++ [.lst xs]) else .stuck
section
variable {X : Cx} {Cl : Nat → Addr} {E : XK} {pos : Pos} {ma : ME} {mr : MA} {e : Expr} {es : List Expr}
theorem ja_nil : JA X Cl E [] mNil := ⟨_, pa_nil, fun β H σ s st Q hr hs h => PoG.val h hr .nil⟩
theorem ja_cons (ha : JE X Cl E e ma) (hr : JA X Cl E es mr) (hs : starEach (e :: es) X.env = (false, eval e X.env) :: starEach es X.env := by rfl) : JA X Cl E (e :: es) (mCons ma mr) := by
  obtain ⟨t1, p1, q1⟩ := ha.ex
  obtain ⟨t2, p2, q2⟩ := hr.ex
  refine ⟨_, pa_cons p1 p2 hs, fun β H σ s st Q hr hs h => q1 β H σ s st _ hr hs (h.bind fun x st1 β1 H1 v _ e1 hr1 rx h1 => q2 β1 H1 σ s st1 _ hr1 (hs.ext e1) (h1.bind fun y st2 β2 H2 u _ e2 hr2 ry h2 => ?_))⟩
  exact PoG.val h2 hr2 (.cons (rx.ext e2) ry)
theorem je_tup {k} (h : JA X Cl E es mr) : JE X Cl E (.Tuple es k pos) (mTup mr) := by
  obtain ⟨t, p, q⟩ := h.ex
  refine ⟨_, pe_tup p, fun β H σ s st Q hr hs h => q β H σ s st _ hr hs (h.bind fun x st1 β1 H1 v _ e1 hr1 rx h1 => ?_)⟩
  split at h1
  · rename_i hz
    exact ⟨by rw [← rx.length]; exact hz, fun l hl => Po.tup h1 hr1 hl rx⟩
  · exact h1.elim
theorem je_lst (h : JA X Cl E es mr) : JE X Cl E (.List es pos) (mLst mr) := by
  obtain ⟨t, p, q⟩ := h.ex
  refine ⟨_, pe_lst p, fun β H σ s st Q hr hs h => q β H σ s st _ hr hs (h.bind fun x st1 β1 H1 v _ e1 hr1 rx h1 => ?_)⟩
  split at h1
  · rename_i hz
    exact ⟨by rw [← rx.length]; exact hz, fun l hl => Po.lst h1 hr1 hl rx⟩
  · exact h1.elim
theorem Po.lstS {K : PySem.W.Frag} {β : Bt} {H : Hp} {p : Addr} {ws : List W} {vs : List V} {st : Sto} {Q : VK} (h : Po K Cl E β H Q (.ok (.ref st.length) (st ++ [.lst ws]))) (hr : HR K Cl β H st) (hp : H p = none) (r : RVs K β H ws vs) : Q (.ref p) (upd H p (.lst vs)) :=
  h _ _ _ (Ext.push hp) (hr.push hp ⟨vs, upd_same, r.ext (Ext.push hp)⟩) (.ref (by rw [← hr.len]; exact push_last))
theorem je_lstS (h : JA X Cl E es mr) : JE X Cl E (.List es pos) (mLstS mr) := by
  obtain ⟨t, p, q⟩ := h.ex
  refine ⟨_, pe_lst p, fun β H σ s st Q hr hs h => q β H σ s st _ hr hs (h.bind fun x st1 β1 H1 v _ e1 hr1 rx h1 => ?_)⟩
  split at h1
  · rename_i hz
    exact ⟨by rw [← rx.length]; exact hz, fun l hl => Po.lstS h1 hr1 hl rx⟩
  · exact h1.elim
end
/-- a value list becomes an object of the store (it is new: nobody else holds it) -/
@[simp] def mThaw (a : ME) : ME := fun s st => (a s st).bind fun x st1 => match x with
  | .lst ws => .ok (.ref st1.length) (st1 ++ [.lst ws])
  | _ => .stuck
/-- the list of an object of the store becomes a value -/
@[simp] def mFrz (a : ME) : ME := fun s st => (a s st).bind fun x st1 => match x with
  | .ref i => match st1[i]? with
    | some (.lst ws) => .ok (.lst ws) (st1.set i .dead)
    | _ => .stuck
  | _ => .stuck
section
variable {X : Cx} {Cl : Nat → Addr} {E : XK} {ma : ME} {e : Expr}
theorem je_frz (h : JE X Cl E e ma) : JE X Cl E e (mFrz ma) := by
  obtain ⟨t, p, q⟩ := h.ex
  refine ⟨_, p, fun β H σ s st Q hr hs h => q β H σ s st _ hr hs (h.bind fun x st1 β1 H1 v _ e1 hr1 rx h1 => ?_)⟩
  cases x with
  | ref i =>
    simp only at h1
    split at h1
    · rename_i ws e
      obtain ⟨a, rfl, hb, vs, hv, hrs⟩ := rx.atRef hr1 e (by intro z; cases z)
      refine h1 _ _ _ Ext.letgo (hr1.letgo hb) (.lst hv ⟨fun j hj => ?_, fun z => (hr1.prot _ z).2 i hb⟩ (hrs.ext Ext.letgo))
      rcases let_at hj with ⟨_, z⟩ | ⟨ne, z⟩
      · cases z
      · exact ne (hr1.inj j i a z hb)
    · exact h1.elim
  | _ => exact h1.elim
end

/-! ### subscripts, slices -/
theorem atI_map {α γ : Type} {xs : List α} {ys : List γ} (h : xs.length = ys.length) {i : Int} {v : α} (e : atI xs i = some v) : ∃ j : Nat, xs[j]? = some v ∧ ∀ u : γ, ys[j]? = some u → atI ys i = some u := by
  unfold atI at e ⊢
  rw [← h]
  cases hx : ixN xs.length i with
  | none => rw [hx] at e; cases e
  | some j =>
    rw [hx] at e
    exact ⟨j, e, fun u hu => hu⟩
@[simp] def mIx : M2 := fun x y st => match y with
  | .int i => match x with
    | .tup ws => match atI ws i with
      | some w => .ok w st
      | none => .stuck
    | .str z => if z.length ≤ sizeLine then match atI z.cps.toList i with
        | some c => .ok (.str ⟨#[c]⟩) st
        | none => .stuck
      else .stuck
    | x => match asL x st with
      | some ws => match atI ws i with
        | some w => .ok w st
        | none => .stuck
      | none => .stuck
  | _ => .stuck
def cutW (xs : List W) (lo hi : Option Int) : List W := (xs.drop (HT.sIx xs.length 0 lo)).take (HT.sIx xs.length xs.length hi - HT.sIx xs.length 0 lo)
abbrev MO := Slo → Sto → Out (Option Int)
@[simp] def mNoPart : MO := fun _ st => .ok none st
@[simp] def mPart (a : ME) : MO := fun s st => (a s st).bind fun x st1 => match x with
  | .int i => .ok (some i) st1
  | _ => .stuck
@[simp] def cutOf (x : W) (lo hi : Option Int) (st : Sto) : Out W := match x with
  | .tup ws => .ok (.tup (cutW ws lo hi)) st
  | .str z => if z.length ≤ sizeLine then .ok (.str (cutS z lo hi)) st else .stuck
  | x => match asL x st with
    | some ws => .ok (.lst (cutW ws lo hi)) st
    | none => .stuck
@[simp] def mSl (a : ME) (lo hi : MO) : ME := fun s st => (a s st).bind fun x st1 => (lo s st1).bind fun l st2 => (hi s st2).bind fun u st3 => cutOf x l u st3
structure JO (X : Cx) (Cl : Nat → Addr) (E : XK) (e : Option Expr) (m : MO) : Prop where
  ex : ∃ t, PO X e t ∧ ∀ β H σ s st Q, HR X.K Cl β H st → SR X.K β H s σ → PoG X.K Cl (fun _ _ (a b : Option Int) => a = b) E β H Q (m s st) → t σ H Q
section
variable {X : Cx} {Cl : Nat → Addr} {E : XK} {pos p2 : Pos} {ma mb : ME} {a b e : Expr} {ml mh : MO} {lo hi : Option Expr}
theorem je_ix (ha : JE X Cl E a ma) (hb : JE X Cl E b mb) (hs : PlainIx b := by exact fun _ _ => rfl) : JE X Cl E (.Subscript a b pos) (mOp mIx ma mb) := by
  obtain ⟨_, p1, q1⟩ := ha.ex
  obtain ⟨_, p2, q2⟩ := hb.ex
  refine ⟨_, pe_ix ix_seq p1 p2 hs, se_op (fun β H st x y v u Q hr rx ry h => ?_) q1 q2⟩
  unfold mIx at h
  split at h
  · cases ry
    split at h
    · split at h
      · rename_i w e
        cases rx with
        | tup h1 r1 =>
          obtain ⟨j, hj, k⟩ := atI_map r1.length e
          obtain ⟨v, hv, rv⟩ := r1.get hj
          exact .inr (.inl ⟨_, _, _, v, rfl, rfl, h1, k v hv, PoG.val h hr rv⟩)
      · exact h.elim
    · split at h
      · rename_i hz
        split at h
        · rename_i c e
          cases rx
          exact .inr (.inr ⟨_, _, c, rfl, rfl, hz, e, PoG.val h hr (.str _)⟩)
        · exact h.elim
      · exact h.elim
    · split at h
      · rename_i ws el
        split at h
        · rename_i w e
          obtain ⟨p, vs, rfl, h1, r1⟩ := asL_ok hr rx el
          obtain ⟨j, hj, k⟩ := atI_map r1.length e
          obtain ⟨v, hv, rv⟩ := r1.get hj
          exact .inl ⟨p, vs, _, v, rfl, rfl, h1, k v hv, PoG.val h hr rv⟩
        · exact h.elim
      · exact h.elim
  · exact h.elim
theorem jo_none : JO X Cl E none mNoPart := ⟨_, po_none, fun β H σ s st Q hr hs h => PoG.val h hr rfl⟩
theorem jo_some (h : JE X Cl E e ma) : JO X Cl E (some e) (mPart ma) := by
  obtain ⟨t, p, q⟩ := h.ex
  refine ⟨_, po_some p, fun β H σ s st Q hr hs h => q β H σ s st _ hr hs (h.bind fun x st1 β1 H1 v _ e1 hr1 rx h1 => ?_)⟩
  cases x with
  | int i => cases rx; exact ⟨i, rfl, PoG.val h1 hr1 rfl⟩
  | _ => exact h1.elim
theorem RVs.cut {K : PySem.W.Frag} {β : Bt} {H : Hp} {ws : List W} {vs : List V} (r : RVs K β H ws vs) (lo hi : Option Int) : RVs K β H (cutW ws lo hi) (cutV vs lo hi) := by
  unfold cutW cutV
  rw [r.length]
  exact (r.drop _).take _
theorem je_sl (ha : JE X Cl E a ma) (hl : JO X Cl E lo ml) (hh : JO X Cl E hi mh) : JE X Cl E (.Subscript a (.Slice lo hi none p2) pos) (mSl ma ml mh) := by
  obtain ⟨_, p1, q1⟩ := ha.ex
  obtain ⟨_, pl, ql⟩ := hl.ex
  obtain ⟨_, ph, qh⟩ := hh.ex
  refine ⟨_, pe_slice (sl_list.or (sl_tupA.or sl_str)) p1 pl ph, fun β H σ s st Q hr hs h => q1 β H σ s st _ hr hs (h.bind fun x st1 β1 H1 v _ e1 hr1 rx1 h1 => ql β1 H1 σ s st1 _ hr1 (hs.ext e1) (h1.bind fun l st2 β2 H2 l' _ e2 hr2 rl h2 =>
    qh β2 H2 σ s st2 _ hr2 ((hs.ext e1).ext e2) (h2.bind fun u st3 β3 H3 u' _ e3 hr3 ru h3 => ?_)))⟩
  cases rl
  cases ru
  have rx := rx1.ext (e2.trans e3)
  unfold cutOf at h3
  split at h3
  · cases rx with
    | @tup p ws vs h1 r1 =>
      refine .inr (.inl ⟨p, vs, rfl, h1, fun ew => ?_, fun _ l hl => Po.tup h3 hr3 hl (r1.cut _ _)⟩)
      refine PoG.val h3 hr3 (.tup h1 ?_)
      have ec : ∀ us : List W, us.length = vs.length → cutW us l u = us := fun us q => by
        unfold cutW
        rw [q, ew.1, ew.2, List.drop_zero, Nat.sub_zero, ← q, List.take_length]
      rw [ec _ r1.length]
      exact r1
  · split at h3
    · rename_i hz
      cases rx
      exact .inr (.inr ⟨_, rfl, hz, PoG.val h3 hr3 (.str _)⟩)
    · exact h3.elim
  · split at h3
    · rename_i ws el
      obtain ⟨p, vs, rfl, h1, r1⟩ := asL_ok hr3 rx el
      exact .inl ⟨p, vs, rfl, h1, fun l hl => Po.lst h3 hr3 hl (r1.cut _ _)⟩
    · exact h3.elim
end

/-! ### fields -/
@[simp] def mFld (c : Nat) (f : Str) (a : ME) : ME := fun s st => (a s st).bind fun x st1 => match x with
  | .ref i => match st1[i]? with
    | some (.ins d fs) => if d = c then match fs.lookup f with
        | some w => .ok w st1
        | none => .stuck
      else .stuck
    | _ => .stuck
  | _ => .stuck
section
variable {X : Cx} {Cl : Nat → Addr} {E : XK} {pos : Pos} {ma : ME} {e : Expr}
theorem je_fld {c : Nat} {f : Str} (hc : Cls X.K (Cl c)) (hn : NoAttr X.K (Cl c) f) (ha : JE X Cl E e ma) (hb : attributeBase e f X.env (eval e X.env) = eval e X.env := by rfl) : JE X Cl E (.Attribute e f pos) (mFld c f ma) := by
  obtain ⟨t, p, q⟩ := ha.ex
  refine ⟨_, pe_fld p hb, fun β H σ s st Q hr hs h => q β H σ s st _ hr hs (h.bind fun x st1 β1 H1 v _ e1 hr1 rx h1 => ?_)⟩
  cases x with
  | ref i =>
    simp only at h1
    split at h1
    · rename_i d fs es
      split at h1
      · rename_i ed
        subst ed
        split at h1
        · rename_i w el
          obtain ⟨a, rfl, hb, dx, gs, hv, hrs⟩ := rx.atRef hr1 es (by intro z; cases z)
          obtain ⟨v, hl, rv⟩ := hrs.look el
          exact ⟨a, _, dx, gs, v, rfl, hv, hc, hn, hl, PoG.val h1 hr1 rv⟩
        · exact h1.elim
      · exact h1.elim
    · exact h1.elim
  | _ => exact h1.elim
end

/-! ### built-in calls -/
@[simp] def mCB (r : List W → Sto → Out W) (a : MA) : ME := fun s st => (a s st).bind fun xs st1 => r xs st1
def SCal (K : PySem.W.Frag) (Cl : Nat → Addr) (E : XK) (r : List V → Hp → VK → Prop) (m : List W → Sto → Out W) : Prop :=
  ∀ β H st xs vs Q, HR K Cl β H st → RVs K β H xs vs → Po K Cl E β H Q (m xs st) → r vs H Q
section
variable {X : Cx} {Cl : Nat → Addr} {E : XK} {pos p : Pos} {mr : MA} {e : Expr} {es : List Expr}
theorem je_callB {x : Str} {id : String} {r : List V → Hp → VK → Prop} {m : List W → Sto → Out W} (hc : CallR X (.builtin id) r ∧ SCal X.K Cl E r m) (hm : X.mg x = none) (hv : bootBuiltins x = some (.builtin id)) (ha : JA X Cl E (e :: es) mr) (hg : Gl X x := by rfl) (hn : x ≠ "__name__" := by decide) (hdb : (x == ("__debug__" : Str)) = false := by decide)
    (he : starEach (e :: es) X.env = (false, eval e X.env) :: starEach es X.env := by rfl) (hpl : (backTo pos (starEach es X.env)).any (·.1) = false := by rfl) : JE X Cl E (.Call (.Name x p) (e :: es) [] pos) (mCB m mr) := by
  obtain ⟨t, pr, q⟩ := ha.ex
  exact ⟨_, pe_callB hc.1 hg hm hv pr hn hdb he hpl, fun β H σ s st Q hr hs h => q β H σ s st _ hr hs (h.bind fun x st1 β1 H1 v _ e1 hr1 rx h1 => hc.2 β1 H1 st1 x v Q hr1 rx h1)⟩
theorem je_callTy {x : Str} {T : String} {r : List V → Hp → VK → Prop} {m : List W → Sto → Out W} (hc : CallR X (.type T) r ∧ SCal X.K Cl E r m) (hm : X.mg x = none) (hv : bootBuiltins x = some (.type T)) (ha : JA X Cl E (e :: es) mr) (hg : Gl X x := by rfl) (hn : x ≠ "__name__" := by decide) (hdb : (x == ("__debug__" : Str)) = false := by decide)
    (he : starEach (e :: es) X.env = (false, eval e X.env) :: starEach es X.env := by rfl) (hpl : (backTo pos (starEach es X.env)).any (·.1) = false := by rfl) : JE X Cl E (.Call (.Name x p) (e :: es) [] pos) (mCB m mr) := by
  obtain ⟨t, pr, q⟩ := ha.ex
  exact ⟨_, pe_callTy hc.1 hg hm hv pr hn hdb he hpl, fun β H σ s st Q hr hs h => q β H σ s st _ hr hs (h.bind fun x st1 β1 H1 v _ e1 hr1 rx h1 => hc.2 β1 H1 st1 x v Q hr1 rx h1)⟩
@[simp] def mLen : List W → Sto → Out W := fun xs st => match xs with
  | [.tup ws] => .ok (.int (ws.length : Nat)) st
  | [.str z] => if z.length ≤ sizeLine then .ok (.int (z.length : Nat)) st else .stuck
  | [x] => match asL x st with
    | some ws => .ok (.int (ws.length : Nat)) st
    | none => .stuck
  | _ => .stuck
@[simp] def mAbs : List W → Sto → Out W := fun xs st => match xs with
  | [.int i] => .ok (.int (if i < 0 then -i else i)) st
  | _ => .stuck
@[simp] def mMax2 : List W → Sto → Out W := fun xs st => match xs with
  | [.int i, .int j] => .ok (.int (max i j)) st
  | _ => .stuck
@[simp] def mMin2 : List W → Sto → Out W := fun xs st => match xs with
  | [.int i, .int j] => .ok (.int (min i j)) st
  | _ => .stuck
@[simp] def mInt : List W → Sto → Out W := fun xs st => match xs with
  | [.int i] => .ok (.int i) st
  | [.bl k] => .ok (.int (if k then 1 else 0)) st
  | _ => .stuck
@[simp] def mListOf : List W → Sto → Out W := fun xs st => match xs with
  | [.tup ws] => .ok (.lst ws) st
  | [x] => match asL x st with
    | some ws => .ok (.lst ws) st
    | none => .stuck
  | _ => .stuck
@[simp] def mTupleOf : List W → Sto → Out W := fun xs st => match xs with
  | [.tup ws] => .ok (.tup ws) st
  | [x] => match asL x st with
    | some ws => .ok (.tup ws) st
    | none => .stuck
  | _ => .stuck
theorem RVs.one {K : PySem.W.Frag} {β : Bt} {H : Hp} {w : W} {vs : List V} (r : RVs K β H [w] vs) : ∃ v, vs = [v] ∧ RV K β H w v := by
  cases r with
  | cons h t => cases t; exact ⟨_, rfl, h⟩
theorem RVs.two {K : PySem.W.Frag} {β : Bt} {H : Hp} {w u : W} {vs : List V} (r : RVs K β H [w, u] vs) : ∃ v x, vs = [v, x] ∧ RV K β H w v ∧ RV K β H u x := by
  cases r with
  | cons h t =>
    obtain ⟨x, rfl, h2⟩ := RVs.one t
    exact ⟨_, _, rfl, h, h2⟩
theorem c_len : CallR X (.builtin "len") (fun xs H Q => ∃ x n, xs = [x] ∧ LenV X.K x H n ∧ Q (.int n) H) ∧ SCal X.K Cl E (fun xs H Q => ∃ x n, xs = [x] ∧ LenV X.K x H n ∧ Q (.int n) H) mLen := by
  refine ⟨call_len, fun β H st xs vs Q hr r h => ?_⟩
  unfold mLen at h
  split at h
  · obtain ⟨v, rfl, rv⟩ := r.one
    cases rv with
    | tup h1 r1 => exact ⟨_, _, rfl, .inr ⟨_, h1, r1.length⟩, PoG.val h hr (.int _)⟩
  · split at h
    · obtain ⟨v, rfl, rv⟩ := r.one
      cases rv
      exact ⟨_, _, rfl, ⟨by assumption, rfl⟩, PoG.val h hr (.int _)⟩
    · exact h.elim
  · split at h
    · rename_i ws el
      obtain ⟨v, rfl, rv⟩ := r.one
      obtain ⟨p, vs, rfl, h1, r1⟩ := asL_ok hr rv el
      exact ⟨_, _, rfl, .inl ⟨_, h1, r1.length⟩, PoG.val h hr (.int _)⟩
    · exact h.elim
  · exact h.elim
theorem c_abs : CallR X (.builtin "abs") (fun xs H Q => ∃ i, xs = [.int i] ∧ Q (.int (if i < 0 then -i else i)) H) ∧ SCal X.K Cl E (fun xs H Q => ∃ i, xs = [.int i] ∧ Q (.int (if i < 0 then -i else i)) H) mAbs := by
  refine ⟨call_abs, fun β H st xs vs Q hr r h => ?_⟩
  unfold mAbs at h
  split at h
  · obtain ⟨v, rfl, rv⟩ := r.one
    cases rv
    exact ⟨_, rfl, PoG.val h hr (.int _)⟩
  · exact h.elim
theorem c_max2 (hc : X.calm = true) : CallR X (.builtin "max") (fun xs H Q => ∃ i j, xs = [.int i, .int j] ∧ Q (.int (if j > i then j else i)) H) ∧ SCal X.K Cl E (fun xs H Q => ∃ i j, xs = [.int i, .int j] ∧ Q (.int (if j > i then j else i)) H) mMax2 := by
  refine ⟨call_max2 hc, fun β H st xs vs Q hr r h => ?_⟩
  unfold mMax2 at h
  split at h
  · rename_i i j
    obtain ⟨v, u, rfl, rv, ru⟩ := r.two
    cases rv; cases ru
    have e : (if j > i then j else i) = max i j := by split <;> omega
    exact ⟨_, _, rfl, by rw [e]; exact PoG.val h hr (.int _)⟩
  · exact h.elim
theorem c_min2 (hc : X.calm = true) : CallR X (.builtin "min") (fun xs H Q => ∃ i j, xs = [.int i, .int j] ∧ Q (.int (if j < i then j else i)) H) ∧ SCal X.K Cl E (fun xs H Q => ∃ i j, xs = [.int i, .int j] ∧ Q (.int (if j < i then j else i)) H) mMin2 := by
  refine ⟨call_min2 hc, fun β H st xs vs Q hr r h => ?_⟩
  unfold mMin2 at h
  split at h
  · rename_i i j
    obtain ⟨v, u, rfl, rv, ru⟩ := r.two
    cases rv; cases ru
    have e : (if j < i then j else i) = min i j := by split <;> omega
    exact ⟨_, _, rfl, by rw [e]; exact PoG.val h hr (.int _)⟩
  · exact h.elim
theorem c_int : CallR X (.type "int") (fun xs H Q => (∃ i, xs = [.int i] ∧ Q (.int i) H) ∨ ∃ k, xs = [.bl k] ∧ Q (.int (if k then 1 else 0)) H) ∧ SCal X.K Cl E (fun xs H Q => (∃ i, xs = [.int i] ∧ Q (.int i) H) ∨ ∃ k, xs = [.bl k] ∧ Q (.int (if k then 1 else 0)) H) mInt := by
  refine ⟨call_int1, fun β H st xs vs Q hr r h => ?_⟩
  unfold mInt at h
  split at h
  · obtain ⟨v, rfl, rv⟩ := r.one
    cases rv
    exact .inl ⟨_, rfl, PoG.val h hr (.int _)⟩
  · obtain ⟨v, rfl, rv⟩ := r.one
    cases rv
    exact .inr ⟨_, rfl, PoG.val h hr (.int _)⟩
  · exact h.elim
theorem c_list : CallR X (.type "list") (fun xs H Q => ∃ p ys, xs = [.ref p] ∧ (SqL X.K H p ys ∨ SqT X.K H p ys) ∧ ∀ l, H l = none → Q (.ref l) (upd H l (.lst ys))) ∧
    SCal X.K Cl E (fun xs H Q => ∃ p ys, xs = [.ref p] ∧ (SqL X.K H p ys ∨ SqT X.K H p ys) ∧ ∀ l, H l = none → Q (.ref l) (upd H l (.lst ys))) mListOf := by
  refine ⟨call_list_of, fun β H st xs vs Q hr r h => ?_⟩
  unfold mListOf at h
  split at h
  · obtain ⟨v, rfl, rv⟩ := r.one
    cases rv with
    | tup h1 r1 => exact ⟨_, _, rfl, .inr h1, fun l hl => Po.lst h hr hl r1⟩
  · split at h
    · rename_i ws el
      obtain ⟨v, rfl, rv⟩ := r.one
      obtain ⟨p, vs, rfl, h1, r1⟩ := asL_ok hr rv el
      exact ⟨_, _, rfl, .inl h1, fun l hl => Po.lst h hr hl r1⟩
    · exact h.elim
  · exact h.elim
theorem c_tuple : CallR X (.type "tuple") (fun xs H Q => ∃ p ys, xs = [.ref p] ∧ ((SqL X.K H p ys ∧ ∀ l, H l = none → Q (.ref l) (upd H l (.tup ys))) ∨ (SqT X.K H p ys ∧ Q (.ref p) H))) ∧
    SCal X.K Cl E (fun xs H Q => ∃ p ys, xs = [.ref p] ∧ ((SqL X.K H p ys ∧ ∀ l, H l = none → Q (.ref l) (upd H l (.tup ys))) ∨ (SqT X.K H p ys ∧ Q (.ref p) H))) mTupleOf := by
  refine ⟨call_tuple_of, fun β H st xs vs Q hr r h => ?_⟩
  unfold mTupleOf at h
  split at h
  · obtain ⟨v, rfl, rv⟩ := r.one
    cases rv with
    | tup h1 r1 => exact ⟨_, _, rfl, .inr ⟨h1, PoG.val h hr (.tup h1 r1)⟩⟩
  · split at h
    · rename_i ws el
      obtain ⟨v, rfl, rv⟩ := r.one
      obtain ⟨p, vs, rfl, h1, r1⟩ := asL_ok hr rv el
      exact ⟨_, _, rfl, .inl ⟨h1, fun l hl => Po.tup h hr hl r1⟩⟩
    · exact h.elim
  · exact h.elim

/-! ### isinstance of a built-in class -/
@[simp] def tyOf (w : W) (st : Sto) : Option String := match w with
  | .non => some "NoneType" | .bl _ => some "bool" | .int _ => some "int" | .str _ => some "str" | .tup _ => some "tuple" | .lst _ => some "list" | .xst _ => some "list"
  | .ref i => match st[i]? with
    | some (.lst _) => some "list"
    | some (.dK _) => some "dict"
    | some (.dT _) => some "dict"
    | _ => none
@[simp] def mIsi (T : String) (a : ME) : ME := fun s st => (a s st).bind fun x st1 => match tyOf x st1 with
  | some t => match kitB t T with
    | some b => .ok (.bl b) st1
    | none => .stuck
  | none => .stuck
theorem tyOf_ok {K : PySem.W.Frag} {β : Bt} {H : Hp} {st : Sto} {x : W} {v : V} {t : String} (hr : HR K Cl β H st) (rx : RV K β H x v) (h : tyOf x st = some t) : TyX K H v (.type t) := by
  cases x with
  | non => cases h; cases rx; exact .base .non
  | bl b => cases h; cases rx; exact .base (.bl _)
  | int i => cases h; cases rx; exact .base (.int _)
  | str i => cases h; cases rx; exact .base (.str _)
  | tup ws =>
    cases h
    cases rx with
    | tup h1 r1 =>
      rcases h1 with (h1 | ⟨o, h1⟩) | ⟨o, its, n, hk, hc, _⟩
      · exact .base (.tup h1)
      · exact .fTuple h1
      · exact .kTuple hk hc
  | lst ws => cases h; cases rx with | lst h1 _ r1 => exact .base (.lst h1)
  | xst ws =>
    cases h
    cases rx with
    | xst h1 r1 =>
      rcases h1 with ⟨o, its, n, hk, hc, _⟩ | ⟨o, h1⟩
      · exact .kList hk hc
      · exact .base (.frz h1)
  | ref i =>
    simp only [tyOf] at h
    split at h
    · rename_i e
      cases h
      obtain ⟨a, rfl, _, vs, h1, _⟩ := rx.atRef hr e (by intro z; cases z)
      exact .base (.lst h1)
    · rename_i e
      cases h
      obtain ⟨a, rfl, _, vs, h1, _⟩ := rx.atRef hr e (by intro z; cases z)
      exact .base (.dK h1)
    · rename_i e
      cases h
      obtain ⟨a, rfl, _, vs, h1, _⟩ := rx.atRef hr e (by intro z; cases z)
      exact .base (.dT h1)
    · cases h
theorem je_isi {ma : ME} {x : Str} {T : String} {p2 : Pos} (hm : X.mg "isinstance" = none) (hmx : X.mg x = none) (hv : bootBuiltins x = some (.type T)) (ha : JE X Cl E e ma) (hgx : Gl X x := by rfl) (hnx : x ≠ "__name__" := by decide) (hdx : (x == ("__debug__" : Str)) = false := by decide)
    (hg : Gl X "isinstance" := by rfl)
    (he : starEach [e, .Name x p2] X.env = (false, eval e X.env) :: starEach [.Name x p2] X.env := by rfl) (hpl : (backTo pos (starEach [.Name x p2] X.env)).any (·.1) = false := by rfl) : JE X Cl E (.Call (.Name "isinstance" p) [e, .Name x p2] [] pos) (mIsi T ma) := by
  obtain ⟨t, pr, q⟩ := ha.ex
  refine ⟨_, pe_callB call_isi hg hm PyProof.Rows.boot_isinstance (pa_cons (hs := he) pr (pa_cons (pe_bltn (v := .ty T) hgx hmx hv rfl hnx hdx) pa_nil)) (he := he) (hpl := hpl), fun β H σ s st Q hr hs h => q β H σ s st _ hr hs (h.bind fun y st1 β1 H1 v _ e1 hr1 rx h1 => ?_)⟩
  split at h1
  · rename_i t et
    split at h1
    · rename_i b eb
      exact ⟨v, .ty T, .type t, .type T, b, rfl, .ty T, tyOf_ok hr1 rx et, kit_ty eb, PoG.val h1 hr1 (.bl b)⟩
    · exact h1.elim
  · exact h1.elim
end

/-! ### dicts with ints and texts as keys -/
@[simp] def toKey : W → Option Key
  | .int i => some (.inl i) | .str x => some (.inr x) | _ => none
def valW {κ : Type} [DecidableEq κ] (kvs : List (κ × W)) (k : κ) : Option W := (kvs.find? fun kv => decide (kv.1 = k)).map (·.2)
def putKW {κ : Type} [DecidableEq κ] (kvs : List (κ × W)) (k : κ) (v : W) : List (κ × W) :=
  if kvs.any fun kv => decide (kv.1 = k) then kvs.map fun kv => if kv.1 = k then (kv.1, v) else kv else kvs ++ [(k, v)]
@[simp] def mDGet (d k : ME) : ME := fun s st => (d s st).bind fun x st1 => (k s st1).bind fun y st2 => match x with
  | .ref i => match st2[i]?, toKey y with
    | some (.dK kvs), some k => match valW kvs k with
      | some w => .ok w st2
      | none => .stuck
    | _, _ => .stuck
  | _ => .stuck
section
variable {X : Cx} {Cl : Nat → Addr} {E : XK} {pos p : Pos} {md mk : ME} {o i : Expr}
theorem toKey_ok {K : PySem.W.Frag} {β : Bt} {H : Hp} {w : W} {v : V} {k : Key} (r : RV K β H w v) (h : toKey w = some k) : v = kV k := by
  cases w <;> first | (cases h; cases r; rfl) | cases h
theorem RF.val {K : PySem.W.Frag} {β : Bt} {H : Hp} {κ : Type} [DecidableEq κ] {k : κ} : ∀ {kvs : List (κ × W)} {gs : List (κ × V)} {w : W}, RF K β H kvs gs → valW kvs k = some w → ∃ v, valV gs k = some v ∧ RV K β H w v
  | _, _, _, .nil, e => by cases e
  | _, _, w, .cons (k := j) (w := u) (v := v) (fs := fs) (gs := gs) h r, e => by
    unfold valW at e
    unfold valV
    rw [List.find?_cons] at e ⊢
    by_cases hk : j = k
    · rw [decide_eq_true (show (j, u).1 = k from hk)] at e
      rw [decide_eq_true (show (j, v).1 = k from hk)]
      cases e
      exact ⟨v, rfl, h⟩
    · rw [decide_eq_false (show ¬ (j, u).1 = k from hk)] at e
      rw [decide_eq_false (show ¬ (j, v).1 = k from hk)]
      exact RF.val r e
theorem RF.valN {K : PySem.W.Frag} {β : Bt} {H : Hp} {κ : Type} [DecidableEq κ] {k : κ} : ∀ {kvs : List (κ × W)} {gs : List (κ × V)}, RF K β H kvs gs → valW kvs k = none → valV gs k = none
  | _, _, .nil, e => rfl
  | _, _, .cons (k := j) (w := u) (v := v) (fs := fs) (gs := gs) h r, e => by
    unfold valW at e
    unfold valV
    rw [List.find?_cons] at e ⊢
    by_cases hk : j = k
    · rw [decide_eq_true (show (j, u).1 = k from hk)] at e
      cases e
    · rw [decide_eq_false (show ¬ (j, u).1 = k from hk)] at e
      rw [decide_eq_false (show ¬ (j, v).1 = k from hk)]
      exact RF.valN r e
theorem je_dget (hu : X.A.units + 1 < cLine) (ho : JE X Cl E o md) (hi : JE X Cl E i mk) (hs : NoSl i := by exact fun _ _ => rfl) : JE X Cl E (.Subscript o i pos) (mDGet md mk) := by
  obtain ⟨_, p1, q1⟩ := ho.ex
  obtain ⟨_, p2, q2⟩ := hi.ex
  refine ⟨_, pe_dget hu p1 p2 hs, fun β H σ s st Q hr hs h => q1 β H σ s st _ hr hs (h.bind fun x st1 β1 H1 v _ e1 hr1 rx1 h1 => q2 β1 H1 σ s st1 _ hr1 (hs.ext e1) (h1.bind fun y st2 β2 H2 u _ e2 hr2 ry h2 => ?_))⟩
  have rx := rx1.ext e2
  cases x with
  | ref j =>
    simp only at h2
    split at h2
    · rename_i kvs k es ek
      split at h2
      · rename_i w ew
        obtain ⟨a, rfl, _, gs, hg, hrs⟩ := rx.atRef hr2 es (by intro z; cases z)
        obtain ⟨v, hv, rv⟩ := hrs.val ew
        exact ⟨a, v, rfl, .inl ⟨gs, k, .inl hg, toKey_ok ry ek, hv.symm⟩, PoG.val h2 hr2 rv⟩
      · exact h2.elim
    · exact h2.elim
  | _ => exact h2.elim
end

/-! ### a written dict -/
@[simp] def mPairs : List (ME × ME) → Slo → Sto → Out (List (W × W))
  | [], _, st => .ok [] st
  | (k, v) :: r, s, st => (k s st).bind fun x st1 => (v s st1).bind fun y st2 => (mPairs r s st2).bind fun ps st3 => .ok ((x, y) :: ps) st3
@[simp] def keyed : List (W × W) → Option (List (Key × W))
  | [] => some []
  | (x, y) :: r => match toKey x, keyed r with
    | some k, some ks => some ((k, y) :: ks)
    | _, _ => none
def mergeW (kvs more : List (Key × W)) : List (Key × W) := more.foldl (fun acc kv => putKW acc kv.1 kv.2) kvs
@[simp] def mDisp (ps : List (ME × ME)) : ME := fun s st => (mPairs ps s (st ++ [.dK []])).bind fun rs st2 => match st2[st.length]?, keyed rs with
  | some (.dK []), some kvs => if kvs.length ≤ 15 then .ok (.ref st.length) (st2.set st.length (.dK (mergeW [] kvs))) else .stuck
  | _, _ => .stuck
inductive RPs (K : PySem.W.Frag) (β : Bt) (H : Hp) : List (W × W) → List (V × V) → Prop
  | nil : RPs K β H [] []
  | cons {x y : W} {a b : V} {ws : List (W × W)} {vs : List (V × V)} : RV K β H x a → RV K β H y b → RPs K β H ws vs → RPs K β H ((x, y) :: ws) ((a, b) :: vs)
inductive JPs (X : Cx) (Cl : Nat → Addr) (E : XK) (pos : Pos) : List (Option Expr) → List Expr → List (TE × TE) → List (ME × ME) → Prop
  | nil : JPs X Cl E pos [] [] [] []
  | cons {k v : Expr} {ks : List (Option Expr)} {vs : List Expr} {tk tv : TE} {mk mv : ME} {ts : List (TE × TE)} {ms : List (ME × ME)} : PE X k tk → SE X.K Cl E tk mk → PE X v tv → SE X.K Cl E tv mv → JPs X Cl E pos ks vs ts ms → JPs X Cl E pos (some k :: ks) (v :: vs) ((tk, tv) :: ts) ((mk, mv) :: ms)
structure JP (X : Cx) (Cl : Nat → Addr) (E : XK) (pos : Pos) (ks : List (Option Expr)) (vs : List Expr) (ms : List (ME × ME)) : Prop where
  ex : ∃ ts, JPs X Cl E pos ks vs ts ms
section
variable {X : Cx} {Cl : Nat → Addr} {E : XK} {pos : Pos}
theorem jp_nil : JP X Cl E pos [] [] [] := ⟨[], .nil⟩
theorem jp_cons {k v : Expr} {ks : List (Option Expr)} {vs : List Expr} {mk mv : ME} {ms : List (ME × ME)} (hk : JE X Cl E k mk) (hv : JE X Cl E v mv) (h : JP X Cl E pos ks vs ms) : JP X Cl E pos (some k :: ks) (v :: vs) ((mk, mv) :: ms) := by
  obtain ⟨_, p1, q1⟩ := hk.ex
  obtain ⟨_, p2, q2⟩ := hv.ex
  obtain ⟨ts, h⟩ := h.ex
  exact ⟨_, .cons p1 q1 p2 q2 h⟩
theorem JPs.pps {ks : List (Option Expr)} {vs : List Expr} {ts : List (TE × TE)} {ms : List (ME × ME)} (h : JPs X Cl E pos ks vs ts ms) : PPs X pos ks vs ts := by
  induction h with
  | nil => exact pps_nil
  | cons p1 _ p2 _ _ ih => exact pps_cons p1 p2 ih
theorem JPs.sim {ks : List (Option Expr)} {vs : List Expr} {ts : List (TE × TE)} {ms : List (ME × ME)} (h : JPs X Cl E pos ks vs ts ms) : ∀ β H σ s st Q, HR X.K Cl β H st → SR X.K β H s σ → PoG X.K Cl (RPs X.K) E β H Q (mPairs ms s st) → tPairs ts σ H Q := by
  induction h with
  | nil => exact fun β H σ s st Q hr hs h => PoG.val h hr .nil
  | cons p1 q1 p2 q2 _ ih =>
    exact fun β H σ s st Q hr hs h => q1 β H σ s st _ hr hs (h.bind fun x st1 β1 H1 v _ e1 hr1 rx h1 => q2 β1 H1 σ s st1 _ hr1 (hs.ext e1) (h1.bind fun y st2 β2 H2 u _ e2 hr2 ry h2 => ih β2 H2 σ s st2 _ hr2 ((hs.ext e1).ext e2) (h2.bind fun ps st3 β3 H3 us _ e3 hr3 rp h3 =>
      PoG.val h3 hr3 (.cons (rx.ext (e2.trans e3)) (ry.ext e3) rp))))
theorem RF.any {K : PySem.W.Frag} {β : Bt} {H : Hp} {κ : Type} [DecidableEq κ] {k : κ} : ∀ {kvs : List (κ × W)} {gs : List (κ × V)}, RF K β H kvs gs → (kvs.any fun kv => decide (kv.1 = k)) = (gs.any fun kv => decide (kv.1 = k))
  | _, _, .nil => rfl
  | _, _, .cons h r => by
    rw [List.any_cons, List.any_cons, RF.any r] <;> rfl
theorem RF.repl {K : PySem.W.Frag} {β : Bt} {H : Hp} {κ : Type} [DecidableEq κ] {k : κ} {y : W} {v : V} (ry : RV K β H y v) : ∀ {kvs : List (κ × W)} {gs : List (κ × V)}, RF K β H kvs gs → RF K β H (kvs.map fun kv => if kv.1 = k then (kv.1, y) else kv) (gs.map fun kv => if kv.1 = k then (kv.1, v) else kv)
  | _, _, .nil => .nil
  | _, _, .cons (k := j) h r => by
    rw [List.map_cons, List.map_cons]
    by_cases e : j = k
    · rw [if_pos (show (j, _).1 = k from e), if_pos (show (j, _).1 = k from e)]
      exact .cons ry (RF.repl ry r)
    · rw [if_neg (show ¬ (j, _).1 = k from e), if_neg (show ¬ (j, _).1 = k from e)]
      exact .cons h (RF.repl ry r)
theorem RF.append {K : PySem.W.Frag} {β : Bt} {H : Hp} {κ : Type} : ∀ {kvs more : List (κ × W)} {gs hs : List (κ × V)}, RF K β H kvs gs → RF K β H more hs → RF K β H (kvs ++ more) (gs ++ hs)
  | _, _, _, _, .nil, s => s
  | _, _, _, _, .cons h r, s => .cons h (RF.append r s)
theorem RF.put {K : PySem.W.Frag} {β : Bt} {H : Hp} {κ : Type} [DecidableEq κ] {kvs : List (κ × W)} {gs : List (κ × V)} (r : RF K β H kvs gs) (k : κ) {y : W} {v : V} (ry : RV K β H y v) : RF K β H (putKW kvs k y) (putK gs k v) := by
  unfold putKW putK
  rw [r.any (k := k)]
  split
  · exact r.repl ry
  · exact r.append (.cons ry .nil)
theorem RF.merge {K : PySem.W.Frag} {β : Bt} {H : Hp} : ∀ {more : List (Key × W)} {hs : List (Key × V)} {kvs : List (Key × W)} {gs : List (Key × V)}, RF K β H more hs → RF K β H kvs gs → RF K β H (mergeW kvs more) (mergeK gs hs)
  | _, _, _, _, .nil, r => r
  | _, _, kvs, gs, .cons (k := k) (w := w) (v := v) (fs := fs) (gs := hs) h t, r => by
    show RF K β H (mergeW (putKW kvs k w) fs) (mergeK (putK gs k v) hs)
    exact RF.merge t (r.put k h)
theorem keyed_ok {K : PySem.W.Frag} {β : Bt} {H : Hp} : ∀ {ws : List (W × W)} {vs : List (V × V)} {kvs : List (Key × W)}, RPs K β H ws vs → keyed ws = some kvs → ∃ gs : List (Key × V), vs = gs.map (fun kv => (kV kv.1, kv.2)) ∧ RF K β H kvs gs
  | _, _, _, .nil, h => by cases h; exact ⟨[], rfl, .nil⟩
  | _, _, _, .cons (x := x) (ws := ws) (b := b) rx ry r, h => by
    unfold keyed at h
    split at h
    · rename_i k ks e1 e2
      cases h
      obtain ⟨gs, e, rf⟩ := keyed_ok r e2
      have ek := toKey_ok rx e1
      subst e ek
      exact ⟨(k, b) :: gs, rfl, .cons ry rf⟩
    · cases h
theorem je_disp {ks : List (Option Expr)} {vs : List Expr} {ms : List (ME × ME)} (h : JP X Cl E pos ks vs ms) (hall : ks.all (·.isSome) = true := by rfl) (hl : ks.length = vs.length := by rfl) (h0 : ks ≠ [] := by exact List.cons_ne_nil _ _) (h15 : ks.length ≤ 15 := by decide) : JE X Cl E (.Dict ks vs pos) (mDisp ms) := by
  obtain ⟨ts, h⟩ := h.ex
  refine ⟨_, pe_disp h.pps hall hl h0 h15, fun β H σ s st Q hr hs hp p hn => ?_⟩
  have ep : Ext X.K β H (β.push p) (upd H p (.dK [])) := Ext.push hn
  have hr' : HR X.K Cl (β.push p) (upd H p (.dK [])) (st ++ [.dK []]) := hr.push hn ⟨[], upd_same, .nil⟩
  refine h.sim _ _ σ s _ _ hr' (hs.ext ep) ((PoG.ext ep hp).bind fun rs st2 β2 H2 us _ e2 hr2 rp h2 => ?_)
  split at h2
  · rename_i kvs e1 e3
    split at h2
    · rename_i hz
      have hb : (β.push p).l[st.length]? = some (some p) := by rw [← hr.len]; exact push_last
      obtain ⟨a, hb2, gs0, hg, r0⟩ := hr2.at e1 (by intro z; cases z)
      cases r0
      have ha : a = p := by
        rcases e2.live _ _ hb with q | q
        · rw [hb2] at q
          exact Option.some.inj (Option.some.inj q)
        · rw [hb2] at q
          cases q
      subst ha
      obtain ⟨gs, eg, rf⟩ := keyed_ok rp e3
      have hlen : gs.length ≤ 15 := by rw [← rf.length]; exact hz
      have em : Ext X.K β2 H2 β2 (upd H2 a (.dK (mergeK [] gs))) := Ext.mut hr2 hb2 hg trivial
      exact ⟨hg, gs, eg, hlen, h2 β2 _ _ em (hr2.mut hb2 hg trivial ⟨_, upd_same, (rf.merge .nil).ext em⟩) (.ref hb2)⟩
    · exact h2.elim
  · exact h2.elim
end
end Mi
/-! The mirror layer, part E: statements, loops, comprehensions. -/
namespace Mi
open PySem L2

structure JS (X : Cx) (Cl : Nat → Addr) (E : XK) (x : Stmt) (m : MS) : Prop where
  ex : ∃ t, PS X x t ∧ SS X.K Cl E t m
structure JSs (X : Cx) (Cl : Nat → Addr) (E : XK) (x : List Stmt) (m : MS) : Prop where
  ex : ∃ t, PSs X x t ∧ SS X.K Cl E t m

@[simp] def SO.then : SO → MS → SO
  | .nx s st, k => k s st
  | .rt w st, _ => .rt w st
  | .bk s st, _ => .bk s st
  | .ct s st, _ => .ct s st
  | .exc c fs st, _ => .exc c fs st
  | .stuck, _ => .stuck
/-- an evaluation's outcome, then a statement's -/
@[simp] def Out.run {α : Type} : Out α → (α → Sto → SO) → SO
  | .ok a st, k => k a st
  | .exc c fs st, _ => .exc c fs st
  | .stuck, _ => .stuck
@[simp] def mSkip : MS := fun s st => .nx s st
@[simp] def mSeq (a b : MS) : MS := fun s st => (a s st).then b
@[simp] def mBrk : MS := fun s st => .bk s st
@[simp] def mCont : MS := fun s st => .ct s st
@[simp] def mDrop (e : ME) : MS := fun s st => (e s st).run fun _ st1 => .nx s st1
@[simp] def mRet (e : ME) : MS := fun s st => (e s st).run fun w st1 => .rt w st1
@[simp] def mRetN : MS := fun _ st => .rt .non st
@[simp] def mIfS (t : MT) (a b : MS) : MS := fun s st => (t s st).run fun k st1 => if k = true then a s st1 else b s st1
abbrev MG := W → Slo → Sto → Option (Slo × Sto)
abbrev MGs := List W → Slo → Sto → Option (Slo × Sto)
@[simp] def mGN (i : Nat) : MG := fun w s st => some (s.set i (some w), st)
@[simp] def mGNil : MGs := fun ws s st => match ws with
  | [] => some (s, st)
  | _ => none
@[simp] def mGCons (g : MG) (r : MGs) : MGs := fun ws s st => match ws with
  | w :: ws => match g w s st with
    | some (s1, st1) => r ws s1 st1
    | none => none
  | [] => none
@[simp] def mGTup (n : Nat) (g : MGs) : MG := fun w s st => match w with
  | .tup ws => if ws.length = n then g ws s st else none
  | _ => none
@[simp] def mGSub (o i : ME) : MG := fun w s st => match o s st with
  | .ok x st1 => match i s st1 with
    | .ok y st2 => match x, y with
      | .ref r, .int k => match st2[r]? with
        | some (.lst ws) => match ixN ws.length k with
          | some j => some (s, st2.set r (.lst (ws.set j w)))
          | none => none
        | _ => none
      | _, _ => none
    | _ => none
  | _ => none
@[simp] def mGFld (c : Nat) (f : Str) (o : ME) : MG := fun w s st => match o s st with
  | .ok x st1 => match x with
    | .ref r => match st1[r]? with
      | some (.ins d fs) => if d = c ∧ fs.length < 1000 then some (s, st1.set r (.ins c (putW f w fs))) else none
      | _ => none
    | _ => none
  | _ => none
@[simp] def mAsg (e : ME) (g : MG) : MS := fun s st => (e s st).run fun w st1 => match g w s st1 with
  | some (s1, st2) => .nx s1 st2
  | none => .stuck
@[simp] def mSetF (c : Nat) (f : Str) (o e : ME) : MS := fun s st => (e s st).run fun w st1 => (o s st1).run fun x st2 => match x with
  | .ref r => match st2[r]? with
    | some (.ins d fs) => if d = c ∧ fs.length < 1000 then .nx s (st2.set r (.ins c (putW f w fs))) else .stuck
    | _ => .stuck
  | _ => .stuck
@[simp] def mDPut (d k e : ME) : MS := fun s st => (e s st).run fun w st1 => (d s st1).run fun x st2 => (k s st2).run fun y st3 => match x with
  | .ref r => match st3[r]?, toKey y with
    | some (.dK kvs), some k => if kvs.length < sizeLine then .nx s (st3.set r (.dK (putKW kvs k w))) else .stuck
    | _, _ => .stuck
  | _ => .stuck
/-- name op= e -/
@[simp] def mAug (i : Nat) (e : ME) (f : Int → Int → Int) : MS := fun s st => match s[i]? with
  | some (some (.int a)) => (e s st).run fun y st1 => match y with
    | .int b => .nx (s.set i (some (.int (f a b)))) st1
    | _ => .stuck
  | _ => .stuck
@[simp] def mPar (i j : Nat) (a : MA) : MS := fun s st => (a s st).run fun ws st1 => match ws with
  | [v, w] => .nx ((s.set i (some v)).set j (some w)) st1
  | _ => .stuck

section
variable {K : PySem.W.Frag} {Cl : Nat → Addr} {E : XK} {β : Bt} {H : Hp} {α ω : Type} {R1 : Bt → Hp → α → ω → Prop} {D : Ends}
theorem PoS.run {Q1 : ω → Hp → Prop} {o : Out α} {f : α → Sto → SO} (h : PoS K Cl E D β H (o.run f))
    (k : ∀ a st1 β1 H1 v, o = .ok a st1 → Ext K β H β1 H1 → HR K Cl β1 H1 st1 → R1 β1 H1 a v → PoS K Cl E D β1 H1 (f a st1) → Q1 v H1) : PoG K Cl R1 E β H Q1 o := by
  cases o with
  | ok a st => exact fun β1 H1 v e hr r => k a st β1 H1 v rfl e hr r (PoS.ext e h)
  | exc c fs st => exact h
  | stuck => exact h
theorem PoS.val {s : Slo} {st : Sto} {σ : L2.St} (h : PoS K Cl E D β H (.nx s st)) (hr : HR K Cl β H st) (hs : SR K β H s σ) : D.nx σ H := h β H σ (Ext.refl K β H) hr hs
/-- a target's end -/
def PoT (K : PySem.W.Frag) (Cl : Nat → Addr) (Q : L2.St → Hp → Prop) (β : Bt) (H : Hp) : Option (Slo × Sto) → Prop
  | some (s, st) => ∀ β' H' σ', Ext K β H β' H' → HR K Cl β' H' st → SR K β' H' s σ' → Q σ' H'
  | none => False
theorem PoT.ext {Q : L2.St → Hp → Prop} {β' : Bt} {H' : Hp} {o : Option (Slo × Sto)} (e : Ext K β H β' H') (h : PoT K Cl Q β H o) : PoT K Cl Q β' H' o := by
  cases o with
  | some p => exact fun β2 H2 σ2 e2 hr hs => h β2 H2 σ2 (e.trans e2) hr hs
  | none => exact h
def SG (K : PySem.W.Frag) (Cl : Nat → Addr) (g : TG) (m : MG) : Prop := ∀ β H σ s st w v Q, HR K Cl β H st → SR K β H s σ → RV K β H w v → PoT K Cl Q β H (m w s st) → g v σ H Q
def SGs (K : PySem.W.Frag) (Cl : Nat → Addr) (g : TGs) (m : MGs) : Prop := ∀ β H σ s st ws vs Q, HR K Cl β H st → SR K β H s σ → RVs K β H ws vs → PoT K Cl Q β H (m ws s st) → g vs σ H Q
theorem ss_seq {t u : TS} {a b : MS} (ha : SS K Cl E t a) (hb : SS K Cl E u b) : SS K Cl E (tSeq t u) (mSeq a b) := fun β H σ s st D hr hs h => by
  refine ha β H σ s st _ hr hs ?_
  unfold mSeq at h
  cases e : a s st with
  | nx s1 st1 => rw [e] at h; exact fun β1 H1 σ1 e1 hr1 hs1 => hb β1 H1 σ1 s1 st1 D hr1 hs1 (PoS.ext e1 h)
  | rt w st1 => rw [e] at h; exact h
  | bk s1 st1 => rw [e] at h; exact h
  | ct s1 st1 => rw [e] at h; exact h
  | exc c fs st1 => rw [e] at h; exact h
  | stuck => rw [e] at h; exact h
end

section
variable {X : Cx} {Cl : Nat → Addr} {E : XK} {pos : Pos} {ma mb md mk : ME} {ta : MT} {m1 m2 : MS} {a b c e o : Expr} {st : Stmt} {rest as bs : List Stmt}
theorem jss_nil : JSs X Cl E [] mSkip := ⟨_, pss_nil, fun β H σ s st D hr hs h => PoS.val h hr hs⟩
theorem jss_cons (h1 : JS X Cl E st m1) (h2 : JSs X Cl E rest m2) : JSs X Cl E (st :: rest) (mSeq m1 m2) := by
  obtain ⟨_, p1, q1⟩ := h1.ex
  obtain ⟨_, p2, q2⟩ := h2.ex
  exact ⟨_, pss_cons p1 p2, ss_seq q1 q2⟩
theorem jss_one (h1 : JS X Cl E st m1) : JSs X Cl E [st] m1 := by
  obtain ⟨_, p1, q1⟩ := h1.ex
  exact ⟨_, pss_one p1, q1⟩
theorem js_pass : JS X Cl E (.Pass pos) mSkip := ⟨_, ps_pass, fun β H σ s st D hr hs h => PoS.val h hr hs⟩
theorem js_doc {x j pos'} : JS X Cl E (.Expr (.Constant (.str x) j pos) pos') mSkip := ⟨_, ps_doc, fun β H σ s st D hr hs h => PoS.val h hr hs⟩
theorem js_brk : JS X Cl E (.Break pos) mBrk := ⟨_, ps_break, fun β H σ s st D hr hs h => h β H σ (Ext.refl _ β H) hr hs⟩
theorem js_cont : JS X Cl E (.Continue pos) mCont := ⟨_, ps_continue, fun β H σ s st D hr hs h => h β H σ (Ext.refl _ β H) hr hs⟩
theorem js_expr (h : JE X Cl E e ma) (hs : swapsWith e none pos.line X.env = pure false := by rfl) : JS X Cl E (.Expr e pos) (mDrop ma) := by
  obtain ⟨_, p, q⟩ := h.ex
  exact ⟨_, ps_expr p hs, fun β H σ s st D hr hs h => q β H σ s st _ hr hs (h.run fun x st1 β1 H1 v _ e1 hr1 rx h1 => PoS.val h1 hr1 (hs.ext e1))⟩
theorem js_ret (h : JE X Cl E e ma) : JS X Cl E (.Return (some e) pos) (mRet ma) := by
  obtain ⟨_, p, q⟩ := h.ex
  exact ⟨_, ps_ret p, fun β H σ s st D hr hs h => q β H σ s st _ hr hs (h.run fun x st1 β1 H1 v _ e1 hr1 rx h1 => h1 β1 H1 v (Ext.refl _ β1 H1) hr1 rx)⟩
theorem js_retN : JS X Cl E (.Return none pos) mRetN := ⟨_, ps_retN, fun β H σ s st D hr hs h => h β H .non (Ext.refl _ β H) hr .non⟩
theorem js_if (hc : JT X Cl E c ta) (h1 : JSs X Cl E as m1) (h2 : JSs X Cl E bs m2) : JS X Cl E (.If c as bs pos) (mIfS ta m1 m2) := by
  obtain ⟨_, p, q⟩ := hc.ex
  obtain ⟨_, p1, q1⟩ := h1.ex
  obtain ⟨_, p2, q2⟩ := h2.ex
  refine ⟨_, ps_if p p1 p2, fun β H σ s st D hr hs h => q β H σ s st _ hr hs (h.run fun x st1 β1 H1 v _ e1 hr1 rx h1 => ?_)⟩
  cases rx
  cases x with
  | true => rw [if_pos rfl] at h1 ⊢; exact q1 β1 H1 σ s st1 D hr1 (hs.ext e1) h1
  | false => rw [if_neg Bool.false_ne_true] at h1 ⊢; exact q2 β1 H1 σ s st1 D hr1 (hs.ext e1) h1

/-! ### targets -/
structure JG (X : Cx) (Cl : Nat → Addr) (tg : Expr) (m : MG) : Prop where
  ex : ∃ g, PG X tg g ∧ SG X.K Cl g m
structure JGs (X : Cx) (Cl : Nat → Addr) (tgs : List Expr) (m : MGs) : Prop where
  ex : ∃ g, PGs X tgs g ∧ SGs X.K Cl g m
theorem jg_name (i : Nat) {x : Str} (hN : X.N.Nodup) (hi : X.N[i]? = some x := by rfl) (hx : Loc X.env.scope x := by first | exact .inl rfl | exact .inr rfl) (hf : X.fn x = true ∨ X.env.scope.names.lookup x = some .local := by first | exact .inl rfl | exact .inr rfl) : JG X Cl (.Name x pos) (mGN i) :=
  ⟨_, pg_name hN hi hx hf, fun β H σ s st w v Q hr hs rw h => h β H _ (Ext.refl _ β H) hr (hs.set rw)⟩
theorem jgs_nil : JGs X Cl [] mGNil := by
  refine ⟨_, pgs_nil, fun β H σ s st ws vs Q hr hs rw h => ?_⟩
  unfold mGNil at h
  split at h
  · cases rw
    exact ⟨rfl, h β H _ (Ext.refl _ β H) hr hs⟩
  · exact h.elim
theorem jgs_cons {g : MG} {r : MGs} {t : Expr} {ts : List Expr} (h1 : JG X Cl t g) (h2 : JGs X Cl ts r) (hs : (assignEach (t :: ts) X.env).map (·.2) = assign t X.env :: (assignEach ts X.env).map (·.2) := by rfl) : JGs X Cl (t :: ts) (mGCons g r) := by
  obtain ⟨_, p1, q1⟩ := h1.ex
  obtain ⟨_, p2, q2⟩ := h2.ex
  refine ⟨_, pgs_cons p1 p2 hs, fun β H σ s st ws vs Q hr hs rw h => ?_⟩
  unfold mGCons at h
  split at h
  · rename_i w ws
    cases rw with
    | cons r1 r2 =>
      refine ⟨_, _, rfl, q1 β H σ s st _ _ _ hr hs r1 ?_⟩
      cases e : g w s st with
      | none => rw [e] at h; exact h.elim
      | some p =>
        obtain ⟨s1, st1⟩ := p
        rw [e] at h
        exact fun β1 H1 σ1 e1 hr1 hs1 => q2 β1 H1 σ1 s1 st1 _ _ Q hr1 hs1 (r2.ext e1) (PoT.ext e1 h)
  · exact h.elim
theorem jg_tup {r : MGs} {ts : List Expr} {k : Nat} {n : Nat} (hc : X.calm = true) (h : JGs X Cl ts r) (hn : (assignEach ts X.env).length = n := by rfl) (hst : (assignEach ts X.env).findIdx? (·.1) = none := by rfl) : JG X Cl (.Tuple ts k pos) (mGTup n r) := by
  obtain ⟨_, p, q⟩ := h.ex
  refine ⟨_, pg_tup hc p hn hst, fun β H σ s st w v Q hr hs rw h => ?_⟩
  unfold mGTup at h
  split at h
  · split at h
    · rename_i hl
      cases rw with
      | tup h1 r1 => exact ⟨_, _, rfl, h1, by rw [← r1.length]; exact hl, q β H σ s st _ _ Q hr hs r1 h⟩
    · exact h.elim
  · exact h.elim
theorem jg_sub {i : Expr} (ho : JE X Cl E o ma) (hi : JE X Cl E i mb)
    (ha : ∀ v, assign (.Subscript o i pos) X.env v = (do
      let ov ← holding [v] (eval o X.env)
      let iv ← holding [v, ov] (eval i X.env)
      standAt pos
      holding [v, ov, iv] (setItem ov iv v)
      release [v, ov, iv] []) := by intro _; rfl) : JG X Cl (.Subscript o i pos) (mGSub ma mb) := by
  obtain ⟨_, p1, q1⟩ := ho.ex
  obtain ⟨_, p2, q2⟩ := hi.ex
  refine ⟨_, pg_sub p1 p2 set_list ha, fun β H σ s st w v Q hr hs rw h => q1 β H σ s st _ hr hs ?_⟩
  unfold mGSub at h
  cases e1 : ma s st with
  | exc c fs x => rw [e1] at h; exact h.elim
  | stuck => rw [e1] at h; exact h.elim
  | ok x st1 =>
    rw [e1] at h
    intro β1 H1 v1 x1 hr1 rx
    refine q2 β1 H1 σ s st1 _ hr1 (hs.ext x1) ?_
    simp only at h
    cases e2 : mb s st1 with
    | exc c fs x => rw [e2] at h; exact h.elim
    | stuck => rw [e2] at h; exact h.elim
    | ok y st2 =>
      rw [e2] at h
      intro β2 H2 v2 x2 hr2 ry
      simp only at h
      split at h
      · rename_i r k
        split at h
        · rename_i ws es
          split at h
          · rename_i j ej
            have rx2 := rx.ext x2
            obtain ⟨a, rfl, hb, vs, hv, hrs⟩ := rx2.atRef hr2 es (by intro z; cases z)
            cases ry
            have em : Ext X.K β2 H2 β2 (upd H2 a (.lst (vs.set j v))) := Ext.mut hr2 hb hv trivial
            refine ⟨a, vs, k, j, rfl, rfl, hv, by rw [← hrs.length]; exact ej, ?_⟩
            have hrw := hrs.set ((rw.ext x1).ext x2) j
            exact h β2 _ σ ((x1.trans x2).trans em) (hr2.mut hb hv trivial ⟨_, upd_same, hrw.ext em⟩) (((hs.ext x1).ext x2).ext em)
          · exact h.elim
        · exact h.elim
      · exact h.elim
theorem js_asg {tg : Expr} {g : MG} (he : JE X Cl E e ma) (hg : JG X Cl tg g) (hs : swapsWithSole [tg] e pos.line X.env = pure false := by rfl) (hw : swappedStores [tg] e X.env = pure none := by rfl)
    (h1 : (assignEach [tg] X.env).map (·.2) = [assign tg X.env] := by rfl) : JS X Cl E (.Assign [tg] e pos) (mAsg ma g) := by
  obtain ⟨_, p1, q1⟩ := he.ex
  obtain ⟨_, p2, q2⟩ := hg.ex
  refine ⟨_, ps_asg p1 p2 hs hw h1, fun β H σ s st D hr hs h => q1 β H σ s st _ hr hs (h.run fun x st1 β1 H1 v _ e1 hr1 rx h1 => q2 β1 H1 σ s st1 x v _ hr1 (hs.ext e1) rx ?_)⟩
  split at h1
  · rename_i s1 st2 eg
    rw [eg]
    exact h1
  · exact h1.elim
theorem js_set (i : Nat) {x : Str} {pos' : Pos} (hN : X.N.Nodup) (he : JE X Cl E e ma) (hi : X.N[i]? = some x := by rfl) (hx : Loc X.env.scope x := by first | exact .inl rfl | exact .inr rfl) (hs : swapsWith e (some (.Name x pos')) pos.line X.env = pure false := by rfl) (hf : X.fn x = true ∨ X.env.scope.names.lookup x = some .local := by first | exact .inl rfl | exact .inr rfl) :
    JS X Cl E (.Assign [.Name x pos'] e pos) (mAsg ma (mGN i)) := by
  obtain ⟨_, p1, q1⟩ := he.ex
  exact ⟨_, ps_set hN hi hx p1 hs hf, fun β H σ s st D hr hs h => q1 β H σ s st _ hr hs (h.run fun x st1 β1 H1 v _ e1 hr1 rx h1 => PoS.val h1 hr1 ((hs.ext e1).set rx))⟩
theorem js_par (i j : Nat) {x y : Str} {px py pt pt2 : Pos} {kt k2 : Nat} {mp : MA} (hN : X.N.Nodup) (hc : X.calm = true) (ha : JA X Cl E [a, b] mp) (hij : i ≠ j := by decide) (hi : X.N[i]? = some x := by rfl) (hj : X.N[j]? = some y := by rfl)
    (hx : X.env.scope.names.lookup x = some .local := by rfl) (hy : X.env.scope.names.lookup y = some .local := by rfl)
    (hw : swappedStores [.Tuple [.Name x px, .Name y py] kt pt] (.Tuple [a, b] k2 pt2) X.env = pure (some [x, y]) := by rfl)
    (hs : swapsWithSole [.Tuple [.Name x px, .Name y py] kt pt] (.Tuple [a, b] k2 pt2) pos.line X.env = pure false := by rfl) :
    JS X Cl E (.Assign [.Tuple [.Name x px, .Name y py] kt pt] (.Tuple [a, b] k2 pt2) pos) (mPar i j mp) := by
  obtain ⟨_, p1, q1⟩ := ha.ex
  refine ⟨_, ps_par hc hN hi hj hij hx hy p1 hw hs, fun β H σ s st D hr hs h => q1 β H σ s st _ hr hs (h.run fun x st1 β1 H1 v _ e1 hr1 rx h1 => ?_)⟩
  split at h1
  · obtain ⟨v1, v2, rfl, r1, r2⟩ := RVs.two rx
    exact ⟨v1, v2, rfl, PoS.val h1 hr1 (((hs.ext e1).set r1).set r2)⟩
  · exact h1.elim
theorem putW_ok {K : PySem.W.Frag} {β : Bt} {H : Hp} {f : Str} {w : W} {v : V} (r : RV K β H w v) : ∀ {fs : Fl} {gs : List (Str × V)}, RF K β H fs gs → RF K β H (putW f w fs) (putF f v gs)
  | _, _, .nil => .cons r .nil
  | _, _, .cons (k := g) h t => by
    show RF K β H (if g = f then _ else _) (if g = f then _ else _)
    by_cases e : g = f
    · rw [if_pos e, if_pos e]
      subst e
      exact .cons r t
    · rw [if_neg e, if_neg e]
      exact .cons h (putW_ok r t)
theorem js_fld {c : Nat} {f : Str} {pos' : Pos} (hc : Cls X.K (Cl c)) (hn : NoAttr X.K (Cl c) f) (ho : JE X Cl E o mb) (he : JE X Cl E e ma) (hs : swapsWith e (some (.Attribute o f pos')) pos.line X.env = pure false := by rfl) :
    JS X Cl E (.Assign [.Attribute o f pos'] e pos) (mSetF c f mb ma) := by
  obtain ⟨_, p1, q1⟩ := he.ex
  obtain ⟨_, p2, q2⟩ := ho.ex
  refine ⟨_, ps_fld p2 p1 hs, fun β H σ s st D hr hs h => q1 β H σ s st _ hr hs (h.run fun x st1 β1 H1 v _ e1 hr1 rx h1 => q2 β1 H1 σ s st1 _ hr1 (hs.ext e1) (h1.run fun y st2 β2 H2 u _ e2 hr2 ry h2 => ?_))⟩
  cases y with
  | ref r =>
    simp only at h2
    split at h2
    · rename_i d fs es
      split at h2
      · rename_i hd
        obtain ⟨rfl, hl⟩ := hd
        obtain ⟨a, rfl, hb, dx, gs, hv, hrs⟩ := ry.atRef hr2 es (by intro z; cases z)
        have em : Ext X.K β2 H2 β2 (upd H2 a (.ins (Cl d) dx (putF f v gs))) := Ext.mut hr2 hb hv trivial
        exact ⟨a, _, dx, gs, rfl, hv, hc, hn, by rw [← hrs.length]; exact hl, h2 β2 _ σ em (hr2.mut hb hv trivial ⟨dx, _, upd_same, (putW_ok (rx.ext e2) hrs).ext em⟩) (((hs.ext e1).ext e2).ext em)⟩
      · exact h2.elim
    · exact h2.elim
  | _ => exact h2.elim
theorem js_dput {i : Expr} {pos' : Pos} (hu : X.A.units + 1 < cLine) (ho : JE X Cl E o md) (hi : JE X Cl E i mk) (he : JE X Cl E e ma) (hs : swapsWith e (some (.Subscript o i pos')) pos.line X.env = pure false := by rfl) :
    JS X Cl E (.Assign [.Subscript o i pos'] e pos) (mDPut md mk ma) := by
  obtain ⟨_, p1, q1⟩ := he.ex
  obtain ⟨_, p2, q2⟩ := ho.ex
  obtain ⟨_, p3, q3⟩ := hi.ex
  refine ⟨_, ps_dput hu p2 p3 p1 hs, fun β H σ s st D hr hs h => q1 β H σ s st _ hr hs (h.run fun x st1 β1 H1 v _ e1 hr1 rx h1 => q2 β1 H1 σ s st1 _ hr1 (hs.ext e1) (h1.run fun y st2 β2 H2 u _ e2 hr2 ry0 h2 =>
    q3 β2 H2 σ s st2 _ hr2 ((hs.ext e1).ext e2) (h2.run fun z st3 β3 H3 t _ e3 hr3 rz h3 => ?_)))⟩
  have ry := ry0.ext e3
  cases y with
  | ref r =>
    simp only at h3
    split at h3
    · rename_i kvs k es ek
      split at h3
      · rename_i hl
        obtain ⟨a, rfl, hb, gs, hv, hrs⟩ := ry.atRef hr3 es (by intro z; cases z)
        have em : Ext X.K β3 H3 β3 (upd H3 a (.dK (putK gs k v))) := Ext.mut hr3 hb hv trivial
        exact ⟨a, _, rfl, .inl ⟨gs, k, hv, toKey_ok rz ek, by rw [← hrs.length]; exact hl, rfl⟩, h3 β3 _ σ em (hr3.mut hb hv trivial ⟨_, upd_same, (hrs.put k ((rx.ext e2).ext e3)).ext em⟩) ((((hs.ext e1).ext e2).ext e3).ext em)⟩
      · exact h3.elim
    · exact h3.elim
  | _ => exact h3.elim
theorem js_aug (i : Nat) {x : Str} {op : Operator} {f : Int → Int → Int} {pos' : Pos} (hN : X.N.Nodup) (ho : PIp X op (ipI f)) (he : JE X Cl E e ma) (hi : X.N[i]? = some x := by rfl) (hx : Loc X.env.scope x := by first | exact .inl rfl | exact .inr rfl) (hf : X.fn x = true ∨ X.env.scope.names.lookup x = some .local := by first | exact .inl rfl | exact .inr rfl) :
    JS X Cl E (.AugAssign (.Name x pos') op e pos) (mAug i ma f) := by
  obtain ⟨_, p1, q1⟩ := he.ex
  refine ⟨_, ps_aug hN hi hx p1 ho hf, fun β H σ s st D hr hs h => ?_⟩
  unfold mAug at h
  split at h
  · rename_i z ez
    obtain ⟨v, hv, rz⟩ := hs.2 i _ ez
    cases rz
    refine ⟨_, hv, q1 β H σ s st _ hr hs (h.run fun x st1 β1 H1 v _ e1 hr1 rx h1 => ?_)⟩
    cases x with
    | int b =>
      cases rx
      exact ⟨_, _, rfl, rfl, PoS.val h1 hr1 ((hs.ext e1).set (.int _))⟩
    | _ => exact h1.elim
  · exact h.elim
end

/-! ### while -/
/-- n: the turns at most -/
def mWhileN (c : MT) (body : MS) : Nat → MS
  | 0 => fun _ _ => .stuck
  | n + 1 => fun s st => (c s st).run fun k st1 => if k = true then
      match body s st1 with
      | .nx s2 st2 => mWhileN c body n s2 st2
      | .ct s2 st2 => mWhileN c body n s2 st2
      | .bk s2 st2 => .nx s2 st2
      | o => o
    else .nx s st1
section
variable {X : Cx} {Cl : Nat → Addr} {E : XK} {pos : Pos} {mc : MT} {mb : MS} {c : Expr} {body : List Stmt}
theorem ss_while {K : PySem.W.Frag} {tc : TT} {tb : TS} (hc : ST K Cl E tc mc) (hb : SS K Cl E tb mb) (n : Nat) : SS K Cl E (tWhile tc tb) (mWhileN mc mb n) := fun β H σ s st D hr hs h => by
  refine ⟨fun m σ' H' => ∃ β' s' st', HR K Cl β' H' st' ∧ SR K β' H' s' σ' ∧ PoS K Cl E D β' H' (mWhileN mc mb m s' st'), ⟨n, β, s, st, hr, hs, h⟩, ?_⟩
  rintro m σ1 H1 ⟨β1, s1, st1, hr1, hs1, h1⟩
  cases m with
  | zero => exact h1.elim
  | succ m =>
    unfold mWhileN at h1
    refine hc β1 H1 σ1 s1 st1 _ hr1 hs1 (h1.run fun k st2 β2 H2 kv _ e2 hr2 rk h2 => ?_)
    cases rk
    cases k with
    | false =>
      rw [if_neg Bool.false_ne_true] at h2 ⊢
      exact PoS.val h2 hr2 (hs1.ext e2)
    | true =>
      rw [if_pos rfl] at h2 ⊢
      refine ⟨fun σ' H' => ∃ β' s' st', HR K Cl β' H' st' ∧ SR K β' H' s' σ' ∧ PoS K Cl E D β' H' (mWhileN mc mb m s' st'), fun σ' H' q => ⟨m, Nat.lt_succ_self m, q⟩, hb β2 H2 σ1 s1 st2 _ hr2 (hs1.ext e2) ?_⟩
      cases eb : mb s1 st2 with
      | nx s3 st3 => rw [eb] at h2; exact fun β3 H3 σ3 e3 hr3 hs3 => ⟨β3, s3, st3, hr3, hs3, PoS.ext e3 h2⟩
      | ct s3 st3 => rw [eb] at h2; exact fun β3 H3 σ3 e3 hr3 hs3 => ⟨β3, s3, st3, hr3, hs3, PoS.ext e3 h2⟩
      | bk s3 st3 => rw [eb] at h2; exact h2
      | rt w st3 => rw [eb] at h2; exact h2
      | exc c fs st3 => rw [eb] at h2; exact h2
      | stuck => rw [eb] at h2; exact h2
theorem js_while (n : Nat) (hp : PassesOwn (model X.prog X.w) X.A X.env X.xe) (hc : JT X Cl E c mc) (hb : JSs X Cl E body mb) : JS X Cl E (.While c body [] pos) (mWhileN mc mb n) := by
  obtain ⟨_, p1, q1⟩ := hc.ex
  obtain ⟨_, p2, q2⟩ := hb.ex
  exact ⟨_, ps_while hp p1 p2, ss_while q1 q2 n⟩
end

/-! ### what is walked -/
/-- values that stand, or a list of the store of so many items -/
inductive Src where
  | vals (ws : List W) | cell (i n : Nat)
def Src.len : Src → Nat
  | .vals ws => ws.length
  | .cell _ n => n
def Src.at : Src → Nat → Sto → Option W
  | .vals ws, j, _ => ws[j]?
  | .cell i n, j, st => match st[i]? with
    | some (.lst ws) => if ws.length = n then ws[j]? else none
    | _ => none
def Src.fine : Src → Sto → Bool
  | .vals _, _ => true
  | .cell i n, st => match st[i]? with
    | some (.lst ws) => decide (ws.length = n)
    | _ => false
abbrev MI := Slo → Sto → Out Src
/-- the walk J goes over src, from (β0, H0) on -/
structure WalkS (K : PySem.W.Frag) (Cl : Nat → Addr) (β0 : Bt) (H0 : Hp) (J : It) (src : Src) : Prop where
  ex : ∃ G Y, Walk J src.len G Y ∧ (∀ β H st, Ext K β0 H0 β H → HR K Cl β H st → src.fine st = true → G H) ∧
    ∀ i H x H' β st w, Ext K β0 H0 β H → HR K Cl β H st → src.at i st = some w → Y i H x H' → Ext K β H β H' ∧ HR K Cl β H' st ∧ RV K β H' w x
def PoI (K : PySem.W.Frag) (Cl : Nat → Addr) (E : XK) (β : Bt) (H : Hp) (R : It → Hp → Prop) : Out Src → Prop
  | .ok src st => ∀ β' H' J, Ext K β H β' H' → HR K Cl β' H' st → WalkS K Cl β' H' J src → R J H'
  | .exc c fs st => ∀ β' H' d, Ext K β H β' H' → HR K Cl β' H' st → RX K β' H' fs d → E (.ref (Cl c)) d H'
  | .stuck => False
structure JI (X : Cx) (Cl : Nat → Addr) (E : XK) (tg iter : Expr) (m : MI) : Prop where
  ex : ∃ w, PI X tg iter w ∧ ∀ β H σ s st R, HR X.K Cl β H st → SR X.K β H s σ → PoI X.K Cl E β H R (m s st) → w σ H R
@[simp] def mILst (e : ME) : MI := fun s st => (e s st).bind fun x st1 => match x with
  | .lst ws => .ok (.vals ws) st1
  | .xst ws => .ok (.vals ws) st1
  | .ref i => match st1[i]? with
    | some (.lst ws) => .ok (.cell i ws.length) st1
    | _ => .stuck
  | _ => .stuck
@[simp] def mITup (e : ME) : MI := fun s st => (e s st).bind fun x st1 => match x with
  | .tup ws => .ok (.vals ws) st1
  | _ => .stuck
def rngW (lo : Int) (n : Nat) : List W := (List.range n).map fun i => .int (lo + (i : Nat))
/-- the bounds of a range's ends (by natAbs: the kernel does not count them) -/
def rngOk (j : Int) : Bool := decide (j.natAbs < 4611686018427387904)
theorem rngOk_iff {j : Int} (h : rngOk j = true) : -(2 ^ 62) ≤ j ∧ j < 2 ^ 62 := by
  have h2 : j.natAbs < 4611686018427387904 := of_decide_eq_true h
  have e : (2 : Int) ^ 62 = 4611686018427387904 := by decide
  rw [e]
  omega
@[simp] theorem rngOk_eq (j : Int) : (rngOk j = true) = (j.natAbs < 4611686018427387904) := by simp [rngOk]
@[simp] def mIRng1 (a : MA) : MI := fun s st => (a s st).bind fun xs st1 => match xs with
  | [.int j] => if rngOk j = true then .ok (.vals (rngW 0 j.toNat)) st1 else .stuck
  | _ => .stuck
@[simp] def mIRng2 (a : MA) : MI := fun s st => (a s st).bind fun xs st1 => match xs with
  | [.int i, .int j] => if rngOk i = true ∧ rngOk j = true then .ok (.vals (rngW i (j - i).toNat)) st1 else .stuck
  | _ => .stuck
/-- range(i, j, c), c positive -/
@[simp] def mIRng3 (a : MA) : MI := fun s st => (a s st).bind fun xs st1 => match xs with
  | [.int i, .int j, .int c] => if rngOk i = true ∧ rngOk j = true ∧ 0 < c ∧ c < 1073741824 then .ok (.vals ((List.range ((j - i + c - 1) / c).toNat).map fun k => .int (i + (k : Nat) * c))) st1 else .stuck
  | _ => .stuck
@[simp] def mIEnum (a : MA) : MI := fun s st => (a s st).bind fun xs st1 => match xs with
  | [.lst ws] => .ok (.vals ((List.range ws.length).map fun i => .tup [.int (i : Nat), ws.getD i .non])) st1
  | [.xst ws] => .ok (.vals ((List.range ws.length).map fun i => .tup [.int (i : Nat), ws.getD i .non])) st1
  | _ => .stuck
section
variable {X : Cx} {Cl : Nat → Addr} {E : XK} {pos p : Pos} {ma : ME} {mr : MA} {tg e a b c : Expr}
theorem Out.bindI {K : PySem.W.Frag} {β : Bt} {H : Hp} {α ω : Type} {R1 : Bt → Hp → α → ω → Prop} {R : It → Hp → Prop} {Q1 : ω → Hp → Prop} {o : Out α} {f : α → Sto → Out Src} (h : PoI K Cl E β H R (o.bind f))
    (k : ∀ a st1 β1 H1 v, o = .ok a st1 → Ext K β H β1 H1 → HR K Cl β1 H1 st1 → R1 β1 H1 a v → PoI K Cl E β1 H1 R (f a st1) → Q1 v H1) : PoG K Cl R1 E β H Q1 o := by
  cases o with
  | ok a st =>
    refine fun β1 H1 v e hr r => k a st β1 H1 v rfl e hr r ?_
    have h' : PoI K Cl E β H R (f a st) := h
    cases ef : f a st with
    | ok src st2 => rw [ef] at h'; exact fun β2 H2 J e2 hr2 w => h' β2 H2 J (e.trans e2) hr2 w
    | exc c fs st2 => rw [ef] at h'; exact fun β2 H2 d e2 hr2 w => h' β2 H2 d (e.trans e2) hr2 w
    | stuck => rw [ef] at h'; exact h'
  | exc c fs st => exact h
  | stuck => exact h
theorem walkS_list {K : PySem.W.Frag} {β : Bt} {H : Hp} {p : Addr} {ws : List W} {vs : List V} (hl : ∀ β' H', Ext K β H β' H' → SqL K H' p vs) (r : RVs K β H ws vs) : WalkS K Cl β H (Itl K p) (.vals ws) := by
  refine ⟨_, _, (show Walk (Itl K p) ws.length _ _ from by rw [r.length]; exact walk_list (xs := vs)), fun β' H' st e hr _ => hl β' H' e, fun i H1 x H2 β1 st w e hr hw y => ?_⟩
  obtain ⟨rfl, hx⟩ := y
  obtain ⟨v, hv, rv⟩ := r.get (show ws[i]? = some w from hw)
  rw [hx] at hv
  cases hv
  exact ⟨Ext.refl _ _ _, hr, rv.ext e⟩
theorem walkS_tup {K : PySem.W.Frag} {β : Bt} {H : Hp} {p : Addr} {ws : List W} {vs : List V} (hl : SqT K H p vs) (r : RVs K β H ws vs) : WalkS K Cl β H (Itt K p) (.vals ws) := by
  refine ⟨_, _, (show Walk (Itt K p) ws.length _ _ from by rw [r.length]; exact walk_tup (xs := vs)), fun β' H' st e hr _ => e.tup _ _ hl, fun i H1 x H2 β1 st w e hr hw y => ?_⟩
  obtain ⟨rfl, hx⟩ := y
  obtain ⟨v, hv, rv⟩ := r.get (show ws[i]? = some w from hw)
  rw [hx] at hv
  cases hv
  exact ⟨Ext.refl _ _ _, hr, rv.ext e⟩
theorem HR.stay {K : PySem.W.Frag} {β β' : Bt} {H H' : Hp} {st : Sto} {i : Nat} {a : Addr} {ob : Ob} (e : Ext K β H β' H') (hr : HR K Cl β' H' st) (hb : β.l[i]? = some (some a)) (hs : st[i]? = some ob) (hd : ob ≠ .dead) : β'.l[i]? = some (some a) := by
  rcases e.live _ _ hb with q | q
  · exact q
  · rw [hr.dead i q] at hs
    exact absurd (Option.some.inj hs).symm hd
theorem walkS_cell {K : PySem.W.Frag} {β : Bt} {H : Hp} {i n : Nat} {a : Addr} (hb : β.l[i]? = some (some a)) : WalkS K Cl β H (Itl K a) (.cell i n) := by
  refine ⟨fun H' => ∃ vs, SqL K H' a vs ∧ vs.length = n, fun j H1 x H2 => H2 = H1 ∧ ∀ xs, SqL K H1 a xs → xs[j]? = some x, ⟨fun j H1 hj ⟨vs, hq, hl⟩ => ⟨vs, vs[j]'(by rw [hl]; exact hj), hq, by simp [hl, show j < n from hj]⟩, fun H1 ⟨vs, hq, hl⟩ => ⟨vs, hq, by rw [hl]; exact Nat.le_refl _⟩, fun j H1 x H2 hj _ y => y⟩, fun β' H' st e hr hf => ?_, fun j H1 x H2 β1 st w e hr hw y => ?_⟩
  · unfold Src.fine at hf
    simp only at hf
    split at hf
    · rename_i ws es
      have hb' := hr.stay e hb es (by intro z; cases z)
      obtain ⟨vs, hv, hrs⟩ := hr.ob i a _ hb' es
      exact ⟨vs, SqL.of hv, by rw [← hrs.length]; exact of_decide_eq_true hf⟩
    · cases hf
  · obtain ⟨rfl, hx⟩ := y
    unfold Src.at at hw
    simp only at hw
    split at hw
    · rename_i ws es
      split at hw
      · have hb' := hr.stay e hb es (by intro z; cases z)
        obtain ⟨vs, hv, hrs⟩ := hr.ob i a _ hb' es
        obtain ⟨v, hv', rv⟩ := hrs.get hw
        rw [hx vs (SqL.of hv)] at hv'
        cases hv'
        exact ⟨Ext.refl _ _ _, hr, rv⟩
      · cases hw
    · cases hw
theorem ji_lst (h : JE X Cl E e ma) : JI X Cl E tg e (mILst ma) := by
  obtain ⟨t, p, q⟩ := h.ex
  refine ⟨_, pi_list p, fun β H σ s st R hr hs h => q β H σ s st _ hr hs (Out.bindI h fun x st1 β1 H1 v _ e1 hr1 rx h1 => ?_)⟩
  cases x with
  | lst ws =>
    cases rx with
    | lst hv hn r1 => exact ⟨_, rfl, ⟨_, SqL.of hv⟩, h1 β1 H1 _ (Ext.refl _ _ _) hr1 (walkS_list (fun β' H' e => SqL.of (e.lst _ _ hv hn).1) r1)⟩
  | xst ws =>
    cases rx with
    | xst hv r1 => exact ⟨_, rfl, ⟨_, KL.sq hv⟩, h1 β1 H1 _ (Ext.refl _ _ _) hr1 (walkS_list (fun β' H' e => KL.sq (hv.imp (fun x => x) fun ⟨o, x⟩ => ⟨o, e.frz _ _ _ x⟩)) r1)⟩
  | ref i =>
    simp only at h1
    split at h1
    · rename_i ws es
      obtain ⟨a, rfl, hb, vs, hv, hrs⟩ := rx.atRef hr1 es (by intro z; cases z)
      exact ⟨a, rfl, ⟨vs, SqL.of hv⟩, h1 β1 H1 _ (Ext.refl _ _ _) hr1 (walkS_cell hb)⟩
    · exact h1.elim
  | _ => exact h1.elim
theorem ji_tup (h : JE X Cl E e ma) : JI X Cl E tg e (mITup ma) := by
  obtain ⟨t, p, q⟩ := h.ex
  refine ⟨_, pi_tup p, fun β H σ s st R hr hs h => q β H σ s st _ hr hs (Out.bindI h fun x st1 β1 H1 v _ e1 hr1 rx h1 => ?_)⟩
  cases x with
  | tup ws =>
    cases rx with
    | tup hv r1 => exact ⟨_, rfl, ⟨_, hv⟩, h1 β1 H1 _ (Ext.refl _ _ _) hr1 (walkS_tup hv r1)⟩
  | _ => exact h1.elim
theorem walkS_rng {K : PySem.W.Frag} {β : Bt} {H : Hp} {lo : Int} {n : Nat} : WalkS K Cl β H (Itr lo n) (.vals (rngW lo n)) := by
  refine ⟨_, _, (show Walk (Itr lo n) (rngW lo n).length _ _ from by rw [show (rngW lo n).length = n by simp [rngW]]; exact walk_range), fun β' H' st e hr _ => trivial, fun i H1 x H2 β1 st w e hr hw y => ?_⟩
  obtain ⟨rfl, rfl⟩ := y
  have hw' : (rngW lo n)[i]? = some w := hw
  unfold rngW at hw'
  rw [List.getElem?_map] at hw'
  by_cases hi : i < n
  · rw [List.getElem?_range hi] at hw'
    cases hw'
    exact ⟨Ext.refl _ _ _, hr, .int _⟩
  · rw [List.getElem?_eq_none (by simp; omega)] at hw'
    cases hw'
theorem walkS_rngC {K : PySem.W.Frag} {β : Bt} {H : Hp} {lo c : Int} {n : Nat} : WalkS K Cl β H (Itc lo c n) (.vals ((List.range n).map fun k => .int (lo + (k : Nat) * c))) := by
  refine ⟨_, _, (show Walk (Itc lo c n) ((List.range n).map fun k => W.int (lo + (k : Nat) * c)).length _ _ from by rw [show ((List.range n).map fun k => W.int (lo + (k : Nat) * c)).length = n by simp]; exact walk_rangeC), fun β' H' st e hr _ => trivial, fun i H1 x H2 β1 st w e hr hw y => ?_⟩
  obtain ⟨rfl, rfl⟩ := y
  have hw' : ((List.range n).map fun k => W.int (lo + (k : Nat) * c))[i]? = some w := hw
  rw [List.getElem?_map] at hw'
  by_cases hi : i < n
  · rw [List.getElem?_range hi] at hw'
    cases hw'
    exact ⟨Ext.refl _ _ _, hr, .int _⟩
  · rw [List.getElem?_eq_none (by simp; omega)] at hw'
    cases hw'
theorem ji_rng1 (hm : X.mg "range" = none) (ha : JA X Cl E [a] mr) (hg : Gl X "range" := by rfl) (hs : starEach [a] X.env = [(false, eval a X.env)] := by rfl) : JI X Cl E tg (.Call (.Name "range" p) [a] [] pos) (mIRng1 mr) := by
  obtain ⟨t, pr, q⟩ := ha.ex
  refine ⟨_, pi_range1 hg hm pr hs, fun β H σ s st R hr hs h => q β H σ s st _ hr hs (Out.bindI h fun x st1 β1 H1 v _ e1 hr1 rx h1 => ?_)⟩
  split at h1
  · split at h1
    · rename_i hz
      obtain ⟨u, rfl, ru⟩ := rx.one
      cases ru
      exact ⟨_, rfl, (rngOk_iff hz).1, (rngOk_iff hz).2, h1 β1 H1 _ (Ext.refl _ _ _) hr1 walkS_rng⟩
    · exact h1.elim
  · exact h1.elim
theorem ji_rng2 (hm : X.mg "range" = none) (ha : JA X Cl E [a, b] mr) (hg : Gl X "range" := by rfl) (hs : starEach [a, b] X.env = [(false, eval a X.env), (false, eval b X.env)] := by rfl) (hs2 : starEach [b] X.env = [(false, eval b X.env)] := by rfl) : JI X Cl E tg (.Call (.Name "range" p) [a, b] [] pos) (mIRng2 mr) := by
  obtain ⟨t, pr, q⟩ := ha.ex
  refine ⟨_, pi_range2 hg hm pr hs hs2, fun β H σ s st R hr hs h => q β H σ s st _ hr hs (Out.bindI h fun x st1 β1 H1 v _ e1 hr1 rx h1 => ?_)⟩
  split at h1
  · split at h1
    · rename_i hz
      obtain ⟨u, w, rfl, ru, rw'⟩ := rx.two
      cases ru; cases rw'
      exact ⟨_, _, rfl, ⟨(rngOk_iff hz.1).1, (rngOk_iff hz.1).2, (rngOk_iff hz.2).1, (rngOk_iff hz.2).2⟩, h1 β1 H1 _ (Ext.refl _ _ _) hr1 walkS_rng⟩
    · exact h1.elim
  · exact h1.elim
end

/-! ### for -/
def mLoop (src : Src) (g : MG) (body : MS) : Nat → Nat → MS
  | 0, _ => fun s st => if src.fine st = true then .nx s st else .stuck
  | k + 1, i => fun s st => if src.fine st = true then match src.at i st with
      | some w => match g w s st with
        | some (s1, st1) => match body s1 st1 with
          | .nx s2 st2 => mLoop src g body k (i + 1) s2 st2
          | .ct s2 st2 => mLoop src g body k (i + 1) s2 st2
          | .bk s2 st2 => .nx s2 st2
          | o => o
        | none => .stuck
      | none => .stuck
    else .stuck
@[simp] def mFor (it : MI) (g : MG) (body : MS) : MS := fun s st => (it s st).run fun src st1 => mLoop src g body src.len 0 s st1
section
variable {X : Cx} {Cl : Nat → Addr} {E : XK} {pos : Pos} {mi : MI} {mg : MG} {mb : MS} {tg iter : Expr} {body : List Stmt}
theorem js_for (hp : PassesOwn (model X.prog X.w) X.A X.env X.xe) (hc : X.calm = true) (hi : JI X Cl E tg iter mi) (hg : JG X Cl tg mg) (hb : JSs X Cl E body mb) (hs : ∀ x, foldedSetIterable iter X.env x = pure x := by intro _; rfl) : JS X Cl E (.For tg iter body [] pos) (mFor mi mg mb) := by
  obtain ⟨_, p1, q1⟩ := hi.ex
  obtain ⟨_, p2, q2⟩ := hg.ex
  obtain ⟨_, p3, q3⟩ := hb.ex
  refine ⟨_, ps_for hp hc p1 p2 p3 hs, fun β H σ s st D hr hs h => q1 β H σ s st _ hr hs ?_⟩
  unfold mFor at h
  cases ei : mi s st with
  | stuck => rw [ei] at h; exact h
  | exc c fs st1 => rw [ei] at h; exact h
  | ok src st1 =>
    rw [ei] at h
    intro β1 H1 J e1 hr1 w
    have h1 : PoS X.K Cl E D β1 H1 (mLoop src mg mb src.len 0 s st1) := PoS.ext e1 h
    obtain ⟨G, Y, wk, hG, hY⟩ := w.ex
    have fine : ∀ k i s st, PoS X.K Cl E D β1 H1 (mLoop src mg mb k i s st) → src.fine st = true := fun k i s st hh => by
      cases k with
      | zero => unfold mLoop at hh; split at hh; assumption; exact hh.elim
      | succ k => unfold mLoop at hh; split at hh; assumption; exact hh.elim
    refine for_it wk (fun i σ' H' => ∃ β' s' st', Ext X.K β1 H1 β' H' ∧ HR X.K Cl β' H' st' ∧ SR X.K β' H' s' σ' ∧ src.fine st' = true ∧ PoS X.K Cl E D β' H' (mLoop src mg mb (src.len - i) i s' st')) ⟨β1, s, st1, Ext.refl _ _ _, hr1, hs.ext e1, fine _ _ _ _ h1, by rw [Nat.sub_zero]; exact h1⟩ (fun i σ' H' hi ⟨β', s', st', e', hr', hs', hf, h'⟩ => hG β' H' st' e' hr' hf) (fun i x σ' H' H2 hi ⟨β', s', st', e', hr', hs', hf, h'⟩ y => ?_) (fun σ' H' ⟨β', s', st', e', hr', hs', hf, h'⟩ => ?_)
    · obtain ⟨k, hk⟩ : ∃ k, src.len - i = k + 1 := ⟨src.len - i - 1, by omega⟩
      rw [hk] at h'
      unfold mLoop at h'
      rw [if_pos hf] at h'
      split at h'
      · rename_i w ew
        obtain ⟨e2, hr2, rw2⟩ := hY i H' x H2 β' st' w e' hr' ew y
        refine q2 β' H2 σ' s' st' w x _ hr2 (hs'.ext e2) rw2 ?_
        split at h'
        · rename_i s3 st3 eg
          rw [eg]
          intro β3 H3 σ3 e3 hr3 hs3
          refine q3 β3 H3 σ3 s3 st3 _ hr3 hs3 ?_
          have e23 := e2.trans e3
          have nxt : ∀ s4 st4, PoS X.K Cl E D β' H' (mLoop src mg mb k (i + 1) s4 st4) → ∀ β4 H4 σ4, Ext X.K β3 H3 β4 H4 → HR X.K Cl β4 H4 st4 → SR X.K β4 H4 s4 σ4 → ∃ β' s' st', Ext X.K β1 H1 β' H4 ∧ HR X.K Cl β' H4 st' ∧ SR X.K β' H4 s' σ4 ∧ src.fine st' = true ∧ PoS X.K Cl E D β' H4 (mLoop src mg mb (src.len - (i + 1)) (i + 1) s' st') := fun s4 st4 h4 β4 H4 σ4 e4 hr4 hs4 => by
            have hk' : src.len - (i + 1) = k := by omega
            refine ⟨β4, s4, st4, e'.trans (e23.trans e4), hr4, hs4, ?_, by rw [hk']; exact PoS.ext (e23.trans e4) h4⟩
            cases k with
            | zero => unfold mLoop at h4; split at h4; assumption; exact h4.elim
            | succ k => unfold mLoop at h4; split at h4; assumption; exact h4.elim
          cases eb : mb s3 st3 with
          | nx s4 st4 => rw [eb] at h'; exact nxt s4 st4 h'
          | ct s4 st4 => rw [eb] at h'; exact nxt s4 st4 h'
          | bk s4 st4 => rw [eb] at h'; exact PoS.ext e23 h'
          | rt w4 st4 => rw [eb] at h'; exact PoS.ext e23 h'
          | exc c4 fs4 st4 => rw [eb] at h'; exact PoS.ext e23 h'
          | stuck => rw [eb] at h'; exact h'
        · exact h'.elim
      · exact h'.elim
    · rw [Nat.sub_self] at h'
      unfold mLoop at h'
      rw [if_pos hf] at h'
      exact PoS.val h' hr' hs'
end
end Mi
/-! The mirror layer, part F: comprehensions, defs and their calls, methods, new instances, the law's end. -/
namespace Mi
open PySem L2 PyProof.Rows

/-! ### one reading for each mirror -/
def tM (K : PySem.W.Frag) (Cl : Nat → Addr) (E : XK) (m : ME) : TE := fun σ H Q => ∃ β s st, HR K Cl β H st ∧ SR K β H s σ ∧ Po K Cl E β H Q (m s st)
def tMT (K : PySem.W.Frag) (Cl : Nat → Addr) (E : XK) (m : MT) : TT := fun σ H Q => ∃ β s st, HR K Cl β H st ∧ SR K β H s σ ∧ PoB K Cl E β H Q (m s st)
section
variable {X : Cx} {Cl : Nat → Addr} {E : XK} {e : Expr} {m : ME} {mt : MT}
theorem JE.pe (h : JE X Cl E e m) : PE X e (tM X.K Cl E m) := by
  obtain ⟨t, p, q⟩ := h.ex
  exact ⟨fun pins s σ H Q I ⟨β, sl, st, hr, hs, hp⟩ => p.run pins s σ H Q I (q β H σ sl st Q hr hs hp)⟩
theorem JT.pt (h : JT X Cl E e mt) : PT X e (tMT X.K Cl E mt) := by
  obtain ⟨t, p, q⟩ := h.ex
  exact ⟨fun pins s σ H Q I ⟨β, sl, st, hr, hs, hp⟩ => p.run pins s σ H Q I (q β H σ sl st Q hr hs hp)⟩
theorem se_m {K : PySem.W.Frag} : SE K Cl E (tM K Cl E m) m := fun β H σ s st Q hr hs h => ⟨β, s, st, hr, hs, h⟩
theorem st_m {K : PySem.W.Frag} : ST K Cl E (tMT K Cl E mt) mt := fun β H σ s st Q hr hs h => ⟨β, s, st, hr, hs, h⟩
end

/-! ### targets within a comprehension: they change its own names alone -/
theorem wipe_at {σ : L2.St} {j : Nat} : ∀ {vs : List Nat}, (wipe σ vs)[j]? = if j ∈ vs ∧ j < σ.length then some none else σ[j]?
  | [] => by simp [wipe]
  | v :: vs => by
    unfold wipe
    have ih := wipe_at (σ := σ) (j := j) (vs := vs)
    by_cases h : v = j
    · subst h
      by_cases hl : v < σ.length
      · rw [List.getElem?_set_self (by rw [wipe_length]; exact hl), if_pos ⟨List.mem_cons_self, hl⟩]
      · rw [List.getElem?_eq_none (by rw [List.length_set, wipe_length]; omega), if_neg (fun z => hl z.2), List.getElem?_eq_none (by omega)]
    · rw [List.getElem?_set_ne h, ih]
      by_cases hm : j ∈ vs ∧ j < σ.length
      · rw [if_pos hm, if_pos ⟨List.mem_cons_of_mem _ hm.1, hm.2⟩]
      · rw [if_neg hm, if_neg]
        rintro ⟨h1, h2⟩
        rcases List.mem_cons.mp h1 with z | z
        · exact h z.symm
        · exact hm ⟨z, h2⟩
theorem wipe_set {σ : L2.St} {i : Nat} {x : Option V} {vs : List Nat} (hi : i ∈ vs) : wipe (σ.set i x) vs = wipe σ vs := by
  apply List.ext_getElem?
  intro j
  rw [wipe_at, wipe_at, List.length_set]
  by_cases hm : j ∈ vs ∧ j < σ.length
  · rw [if_pos hm, if_pos hm]
  · rw [if_neg hm, if_neg hm]
    by_cases e : i = j
    · subst e
      have hl : ¬ i < σ.length := fun z => hm ⟨hi, z⟩
      rw [List.getElem?_eq_none (by rw [List.length_set]; omega), List.getElem?_eq_none (by omega)]
    · rw [List.getElem?_set_ne e]
def wipeW (s : Slo) : List Nat → Slo
  | [] => s
  | v :: vs => (wipeW s vs).set v none
def PoW (K : PySem.W.Frag) (Cl : Nat → Addr) (vs : List Nat) (σ : L2.St) (Q : L2.St → Hp → Prop) (β : Bt) (H : Hp) : Option (Slo × Sto) → Prop
  | some (s, st) => ∀ β' H' σ', wipe σ' vs = wipe σ vs → Ext K β H β' H' → HR K Cl β' H' st → SR K β' H' s σ' → Q σ' H'
  | none => False
theorem PoW.ext {K : PySem.W.Frag} {Cl : Nat → Addr} {vs : List Nat} {σ : L2.St} {Q : L2.St → Hp → Prop} {β β' : Bt} {H H' : Hp} {o : Option (Slo × Sto)} (e : Ext K β H β' H') (h : PoW K Cl vs σ Q β H o) : PoW K Cl vs σ Q β' H' o := by
  cases o with
  | some p => exact fun β2 H2 σ2 w e2 hr hs => h β2 H2 σ2 w (e.trans e2) hr hs
  | none => exact h
def SGW (K : PySem.W.Frag) (Cl : Nat → Addr) (vs : List Nat) (g : TG) (m : MG) : Prop := ∀ β H σ s st w v Q, HR K Cl β H st → SR K β H s σ → RV K β H w v → PoW K Cl vs σ Q β H (m w s st) → g v σ H Q
def SGsW (K : PySem.W.Frag) (Cl : Nat → Addr) (vs : List Nat) (g : TGs) (m : MGs) : Prop := ∀ β H σ s st ws us Q, HR K Cl β H st → SR K β H s σ → RVs K β H ws us → PoW K Cl vs σ Q β H (m ws s st) → g us σ H Q
/-- names of a comprehension's target, told as readings -/
inductive NT where
  | nm (i : Nat) | tp (ns : List NT)
mutual
def NT.g (K : PySem.W.Frag) : NT → TG
  | .nm i => gName i
  | .tp ns => gTup K ns.length (NT.gs K ns)
def NT.gs (K : PySem.W.Frag) : List NT → TGs
  | [] => gNil
  | n :: ns => gCons (NT.g K n) (NT.gs K ns)
end
mutual
def NT.m : NT → MG
  | .nm i => mGN i
  | .tp ns => mGTup ns.length (NT.ms ns)
def NT.ms : List NT → MGs
  | [] => mGNil
  | n :: ns => mGCons (NT.m n) (NT.ms ns)
end
mutual
def NT.within (vs : List Nat) : NT → Bool
  | .nm i => vs.contains i
  | .tp ns => NT.withins vs ns
def NT.withins (vs : List Nat) : List NT → Bool
  | [] => true
  | n :: ns => NT.within vs n && NT.withins vs ns
end
mutual
theorem NT.ok {K : PySem.W.Frag} {Cl : Nat → Addr} {vs : List Nat} : ∀ n : NT, NT.within vs n = true → SGW K Cl vs (NT.g K n) (NT.m n)
  | .nm i, hw => fun β H σ s st w v Q hr hs rw h => by
    simp only [NT.within] at hw
    exact h β H _ (wipe_set (List.contains_iff_mem.mp hw)) (Ext.refl _ _ _) hr (hs.set rw)
  | .tp ns, hw => fun β H σ s st w v Q hr hs rw h => by
    simp only [NT.within] at hw
    simp only [NT.m, mGTup] at h
    simp only [NT.g]
    split at h
    · split at h
      · rename_i hl
        cases rw with
        | tup h1 r1 => exact ⟨_, _, rfl, h1, by rw [← r1.length]; exact hl, NT.oks ns hw β H σ s st _ _ Q hr hs r1 h⟩
      · exact h.elim
    · exact h.elim
theorem NT.oks {K : PySem.W.Frag} {Cl : Nat → Addr} {vs : List Nat} : ∀ ns : List NT, NT.withins vs ns = true → SGsW K Cl vs (NT.gs K ns) (NT.ms ns)
  | [], hw => fun β H σ s st ws us Q hr hs rw h => by
    simp only [NT.ms, mGNil] at h
    simp only [NT.gs]
    split at h
    · cases rw
      exact ⟨rfl, h β H σ rfl (Ext.refl _ _ _) hr hs⟩
    · exact h.elim
  | n :: ns, hw => fun β H σ s st ws us Q hr hs rw h => by
    simp only [NT.withins, Bool.and_eq_true] at hw
    simp only [NT.ms, mGCons] at h
    simp only [NT.gs]
    split at h
    · cases rw with
      | cons r1 r2 =>
        refine ⟨_, _, rfl, NT.ok n hw.1 β H σ s st _ _ _ hr hs r1 ?_⟩
        split at h
        · rename_i s1 st1 e
          rw [e]
          exact fun β1 H1 σ1 w1 e1 hr1 hs1 => NT.oks ns hw.2 β1 H1 σ1 s1 st1 _ _ Q hr1 hs1 (r2.ext e1) (by
            have h' := PoW.ext e1 h
            revert h'
            unfold PoW
            split
            · exact fun h' β2 H2 σ2 w2 e2 hr2 hs2 => h' β2 H2 σ2 (w2.trans w1) e2 hr2 hs2
            · exact fun z => z)
        · exact h.elim
    · exact h.elim
end
/-- the target is read as n -/
structure JN (X : Cx) (tg : Expr) (n : NT) : Prop where
  pg : PG X tg (NT.g X.K n)
structure JNs (X : Cx) (tgs : List Expr) (ns : List NT) : Prop where
  pg : PGs X tgs (NT.gs X.K ns)
  len : tgs.length = ns.length
theorem jn_nm {X : Cx} {pos : Pos} (i : Nat) {x : Str} (hN : X.N.Nodup) (hi : X.N[i]? = some x := by rfl) (hx : Loc X.env.scope x := by first | exact .inl rfl | exact .inr rfl) (hf : X.fn x = true ∨ X.env.scope.names.lookup x = some .local := by first | exact .inl rfl | exact .inr rfl) : JN X (.Name x pos) (.nm i) := ⟨pg_name hN hi hx hf⟩
theorem jns_nil {X : Cx} : JNs X [] [] := ⟨pgs_nil, rfl⟩
theorem jns_cons {X : Cx} {t : Expr} {ts : List Expr} {n : NT} {ns : List NT} (h1 : JN X t n) (h2 : JNs X ts ns) (hs : (assignEach (t :: ts) X.env).map (·.2) = assign t X.env :: (assignEach ts X.env).map (·.2) := by rfl) : JNs X (t :: ts) (n :: ns) := ⟨pgs_cons h1.pg h2.pg hs, by rw [List.length_cons, List.length_cons, h2.len]⟩
theorem jn_tp {X : Cx} {ts : List Expr} {ns : List NT} {k : Nat} {pos : Pos} (hc : X.calm = true) (h : JNs X ts ns) (hn : (assignEach ts X.env).length = ns.length := by rfl) (hst : (assignEach ts X.env).findIdx? (·.1) = none := by rfl) : JN X (.Tuple ts k pos) (.tp ns) := ⟨pg_tup hc h.pg hn hst⟩

/-! ### list comprehensions -/
def mLcLoop (src : Src) (g : MG) (t : MT) (e : ME) (s : Slo) : Nat → Nat → List W → Sto → Out (List W)
  | 0, _, acc, st => if src.fine st = true then .ok acc st else .stuck
  | k + 1, i, acc, st => if src.fine st = true then match src.at i st with
      | some w => match g w s st with
        | some (s2, st1) => match t s2 st1 with
          | .ok true st2 => match e s2 st2 with
            | .ok y st3 => if acc.length < sizeLine then mLcLoop src g t e s k (i + 1) (acc ++ [y]) st3 else .stuck
            | _ => .stuck
          | .ok false st2 => mLcLoop src g t e s k (i + 1) acc st2
          | _ => .stuck
        | none => .stuck
      | none => .stuck
    else .stuck
@[simp] def mLc (it : MI) (n : NT) (t : MT) (e : ME) (vs : List Nat) : ME := fun s st => (it s st).bind fun src st1 => (mLcLoop src (NT.m n) t e (wipeW s vs) src.len 0 [] st1).bind fun ws st2 => .ok (.lst ws) st2
/-- the same, the list an object of the store -/
@[simp] def mLcS (it : MI) (n : NT) (t : MT) (e : ME) (vs : List Nat) : ME := fun s st => (it s st).bind fun src st1 => (mLcLoop src (NT.m n) t e (wipeW s vs) src.len 0 [] st1).bind fun ws st2 => .ok (.ref st2.length) (st2 ++ [.lst ws])
@[simp] def mYes : MT := fun _ st => .ok true st
structure JTs (X : Cx) (Cl : Nat → Addr) (E : XK) (cs : List Expr) (m : MT) : Prop where
  ex : PTs X cs (tMT X.K Cl E m)
section
variable {X : Cx} {Cl : Nat → Addr} {E : XK}
theorem jts_nil : JTs X Cl E [] mYes := ⟨⟨fun pins s σ H Q I ⟨β, sl, st, hr, hs, hp⟩ => pts_nil.run pins s σ H Q I (PoG.val hp hr rfl)⟩⟩
theorem jts_one {c : Expr} {m : MT} (h : JT X Cl E c m) : JTs X Cl E [c] m := ⟨pts_one h.pt⟩
theorem SR.wipe {K : PySem.W.Frag} {β : Bt} {H : Hp} {s : Slo} {σ : L2.St} (h : SR K β H s σ) : ∀ vs : List Nat, SR K β H (wipeW s vs) (L2.wipe σ vs)
  | [] => h
  | v :: vs => by
    have ih := SR.wipe h vs
    refine ⟨by show ((wipeW s vs).set v none).length = ((L2.wipe σ vs).set v none).length; rw [List.length_set, List.length_set, ih.1], fun i w hi => ?_⟩
    have hi : ((wipeW s vs).set v none)[i]? = some (some w) := hi
    show ∃ x, ((L2.wipe σ vs).set v none)[i]? = some (some x) ∧ RV K β H w x
    by_cases e : v = i
    · subst e
      by_cases hl : v < (wipeW s vs).length
      · rw [List.getElem?_set_self hl] at hi; cases hi
      · rw [List.getElem?_eq_none (by rw [List.length_set]; omega)] at hi; cases hi
    · rw [List.getElem?_set_ne e] at hi ⊢
      exact ih.2 i w hi
theorem PoW.E0 {K : PySem.W.Frag} {α ω : Type} {R : Bt → Hp → α → ω → Prop} {β : Bt} {H : Hp} {Q : ω → Hp → Prop} {o : Out α} (h : PoG K Cl R E β H Q o) (hx : ∀ c fs st, o ≠ .exc c fs st) : PoG K Cl R E0 β H Q o := by
  cases o with
  | ok a st => exact h
  | exc c fs st => exact absurd rfl (hx c fs st)
  | stuck => exact h
theorem se_lcG {K : PySem.W.Frag} {wi : TI} {mi : MI} {n : NT} {mt : MT} {me : ME} {vs : List Nat} (kk : List W → Sto → Out W) (hw : NT.within vs n = true) (hi : ∀ β H σ s st R, HR K Cl β H st → SR K β H s σ → PoI K Cl E β H R (mi s st) → wi σ H R)
    (hk : ∀ (β1 : Bt) (H1 : Hp) (st1 : Sto) (β' : Bt) (H' : Hp) (D : Addr) (acs : List V) (ws : List W) (st' : Sto) (Q : VK), HR K Cl β1 H1 st1 → Ext K β1 H1 β' H' → HR K Cl β' H' st' → D ∈ β'.pr → H' D = some (.lst acs) → RVs K β' H' ws acs → H1 D = none → PoG K Cl (RV K) E β1 H1 Q (kk ws st') → Q (.ref D) H') :
    SE K Cl E (tLc wi (NT.g K n) (tMT K Cl E0 mt) (tM K Cl E0 me) vs) (fun s st => (mi s st).bind fun src st1 => (mLcLoop src (NT.m n) mt me (wipeW s vs) src.len 0 [] st1).bind kk) := fun β H σ s st Q hr hs h => by
  refine hi β H σ s st _ hr hs ?_
  simp only at h
  cases ei : mi s st with
  | stuck => rw [ei] at h; exact h
  | exc c fs st1 => rw [ei] at h; exact h
  | ok src st1 =>
    rw [ei] at h
    intro β1 H1 J e1 hr1 w D hD
    obtain ⟨G, Y, wk, hG, hY⟩ := w.ex
    have eg : Ext K β1 H1 (β1.guard D) (upd H1 D (.lst [])) := Ext.guard hD
    have hrg : HR K Cl (β1.guard D) (upd H1 D (.lst [])) st1 := hr1.guard hD
    have hws : SR K β1 H1 (wipeW s vs) (wipe σ vs) := (hs.ext e1).wipe vs
    have h1 : PoG K Cl (RV K) E β1 H1 Q ((mLcLoop src (NT.m n) mt me (wipeW s vs) src.len 0 [] st1).bind kk) := PoG.ext e1 h
    have fine : ∀ k i acc st, (∃ ws st2, mLcLoop src (NT.m n) mt me (wipeW s vs) k i acc st = .ok ws st2) → src.fine st = true := fun k i acc st hh => by
      obtain ⟨ws, st2, hh⟩ := hh
      cases k with
      | zero => unfold mLcLoop at hh; split at hh; assumption; cases hh
      | succ k => unfold mLcLoop at hh; split at hh; assumption; cases hh
    -- the loop comes to an end
    have noexc : ∀ k i acc st c fs st2, mLcLoop src (NT.m n) mt me (wipeW s vs) k i acc st ≠ .exc c fs st2 := fun k => by
      induction k with
      | zero => intro i acc st c fs st2 z; unfold mLcLoop at z; split at z <;> cases z
      | succ k ih =>
        intro i acc st c fs st2 z
        unfold mLcLoop at z
        split at z
        · split at z
          · split at z
            · split at z
              · split at z
                · split at z
                  · exact ih _ _ _ _ _ _ z
                  · cases z
                · cases z
              · exact ih _ _ _ _ _ _ z
              · cases z
            · cases z
          · cases z
        · cases z
    obtain ⟨rs, stE, he⟩ : ∃ rs stE, mLcLoop src (NT.m n) mt me (wipeW s vs) src.len 0 [] st1 = .ok rs stE := by
      cases eo : mLcLoop src (NT.m n) mt me (wipeW s vs) src.len 0 [] st1 with
      | ok a b => exact ⟨a, b, rfl⟩
      | exc c fs st2 => exact absurd eo (noexc _ _ _ _ _ _ _)
      | stuck => rw [eo] at h1; exact h1.elim
    rw [he] at h1
    have hQ : PoG K Cl (RV K) E β1 H1 Q (kk rs stE) := h1
    refine lc_it wk (fun i H' => ∃ β' acc as st', Ext K β1 H1 β' H' ∧ HR K Cl β' H' st' ∧ D ∈ β'.pr ∧ H' D = some (.lst as) ∧ RVs K β' H' acc as ∧ src.fine st' = true ∧ mLcLoop src (NT.m n) mt me (wipeW s vs) (src.len - i) i acc st' = .ok rs stE)
      ⟨β1.guard D, [], [], st1, eg, hrg, List.mem_cons_self, upd_same, .nil, fine _ _ _ _ ⟨_, _, he⟩, by rw [Nat.sub_zero]; exact he⟩ (fun i H' hi ⟨β', acc, as, st', e', hr', hp', hd', ra, hf, h'⟩ => hG β' H' st' e' hr' hf) (fun i x H' H2 hi ⟨β', acc, as, st', e', hr', hp', hd', ra, hf, h'⟩ y => ?_) (fun H' ⟨β', acc, as, st', e', hr', hp', hd', ra, hf, h'⟩ => ?_)
    · obtain ⟨k, hk⟩ : ∃ k, src.len - i = k + 1 := ⟨src.len - i - 1, by omega⟩
      have hk' : src.len - (i + 1) = k := by omega
      rw [hk] at h'
      unfold mLcLoop at h'
      rw [if_pos hf] at h'
      split at h'
      · rename_i w ew
        obtain ⟨e2, hr2, rw2⟩ := hY i H' x H2 β' st' w e' hr' ew y
        refine NT.ok n hw β' H2 (wipe σ vs) (wipeW s vs) st' w x _ hr2 (hws.ext (e'.trans e2)) rw2 ?_
        split at h'
        · rename_i s3 st3 eg'
          rw [eg']
          intro β3 H3 σ3 w3 e3 hr3 hs3
          refine ⟨by rw [w3]; exact wipe_idem, β3, s3, st3, hr3, hs3, ?_⟩
          have keepD : ∀ {β4 : Bt} {H4 : Hp}, Ext K β' H' β4 H4 → D ∈ β4.pr ∧ H4 D = some (.lst as) := fun e4 => e4.prot D hp' _ hd'
          split at h'
          · rename_i st4 et
            rw [et]
            intro β4 H4 b e4 hr4 eb
            subst eb
            rw [if_pos rfl]
            have hs4 := hs3.ext e4
            refine ⟨β4, s3, st4, hr4, hs4, ?_⟩
            split at h'
            · rename_i yv st5 ee
              rw [ee]
              intro β5 H5 yV e5 hr5 ry
              split at h'
              · rename_i hz
                have e25 := (e2.trans e3).trans (e4.trans e5)
                obtain ⟨hp5, hd5⟩ := keepD e25
                have ra5 := ra.ext e25
                refine ⟨as, hd5, by rw [← ra.length]; exact hz, ?_⟩
                have kp : Keep K β5 H5 (upd H5 D (.lst (as ++ [yV]))) := Keep.gset hd5 hp5
                exact ⟨β5, acc ++ [yv], as ++ [yV], st5, Ext.gset hd5 hp5 β1 H1 (e'.trans e25) hD, hr5.gset hd5 hp5, hp5, upd_same, (ra5.append (.cons ry .nil)).keep kp, fine _ _ _ _ ⟨_, _, h'⟩, by rw [hk']; exact h'⟩
              · cases h'
            · cases h'
          · rename_i st4 et
            rw [et]
            intro β4 H4 b e4 hr4 eb
            subst eb
            rw [if_neg Bool.false_ne_true]
            have e24 := (e2.trans e3).trans e4
            obtain ⟨hp4, hd4⟩ := keepD e24
            exact ⟨β4, acc, as, st4, e'.trans e24, hr4, hp4, hd4, ra.ext e24, fine _ _ _ _ ⟨_, _, h'⟩, by rw [hk']; exact h'⟩
          · cases h'
        · cases h'
      · cases h'
    · rw [Nat.sub_self] at h'
      unfold mLcLoop at h'
      rw [if_pos hf] at h'
      cases h'
      exact hk β1 H1 st1 β' H' D _ _ _ Q hr1 e' hr' hp' hd' ra hD hQ
where
  wipe_idem {σ : L2.St} {vs : List Nat} : wipe (wipe σ vs) vs = wipe σ vs := by
    apply List.ext_getElem?
    intro j
    rw [wipe_at, wipe_at, wipe_length]
    by_cases hm : j ∈ vs ∧ j < σ.length
    · rw [if_pos hm, if_pos hm]
    · rw [if_neg hm, if_neg hm]
theorem se_lc {K : PySem.W.Frag} {wi : TI} {mi : MI} {n : NT} {mt : MT} {me : ME} {vs : List Nat} (hw : NT.within vs n = true) (hi : ∀ β H σ s st R, HR K Cl β H st → SR K β H s σ → PoI K Cl E β H R (mi s st) → wi σ H R) :
    SE K Cl E (tLc wi (NT.g K n) (tMT K Cl E0 mt) (tM K Cl E0 me) vs) (mLc mi n mt me vs) :=
  se_lcG _ hw hi fun β1 H1 st1 β' H' D acs ws st' Q hr1 e' hr' hp' hd' ra hD h => by
    have hsub : ∀ q, q ∈ β'.pr.filter (fun q => decide (q ≠ D)) → q ∈ β'.pr := fun q hq => (List.mem_filter.mp hq).1
    refine h ⟨β'.l, β'.pr.filter fun q => decide (q ≠ D)⟩ H' _ (Ext.drop e' (fun q hq => (hr1.prot q hq).1) hD) (hr'.drop rfl hsub) (.lst hd' ⟨(hr'.prot D hp').2, fun z => ?_⟩ (RVs.drop' (β := β') (β' := ⟨β'.l, β'.pr.filter fun q => decide (q ≠ D)⟩) rfl hsub ra))
    exact absurd rfl (of_decide_eq_true (List.mem_filter.mp z).2)
theorem live_app {l : List (Option Addr)} {x : Option Addr} {i : Nat} {o : Option Addr} (h : l[i]? = some o) : (l ++ [x])[i]? = some o := by
  rw [List.getElem?_append_left (List.getElem?_eq_some_iff.mp h).1]; exact h
theorem app_at {l : List (Option Addr)} {x y : Option Addr} {i : Nat} (h : (l ++ [x])[i]? = some y) : l[i]? = some y ∨ (i = l.length ∧ x = y) := by
  rcases Nat.lt_trichotomy i l.length with c | c | c
  · rw [List.getElem?_append_left c] at h; exact .inl h
  · subst c
    rw [List.getElem?_append_right (Nat.le_refl _)] at h
    simp at h
    exact .inr ⟨rfl, h⟩
  · rw [List.getElem?_eq_none (by simp; omega)] at h; cases h
mutual
/-- a value's relation where the store's table has grown by an address that nobody holds as a list -/
theorem RV.adopt {K : PySem.W.Frag} {β : Bt} {H : Hp} {D : Addr} {pr : List Addr} (hp : ∀ q, q ∈ pr → q ∈ β.pr) (hD : D ∈ β.pr) : ∀ {w : W} {v : V}, RV K β H w v → RV K ⟨β.l ++ [some D], pr⟩ H w v
  | _, _, .non => .non
  | _, _, .bl b => .bl b
  | _, _, .int i => .int i
  | _, _, .str x => .str x
  | _, _, .tup h r => .tup h (RVs.adopt hp hD r)
  | _, _, .lst h n r => .lst h ⟨fun i z => by
      rcases app_at z with z | ⟨_, z⟩
      · exact n.1 i z
      · cases z; exact n.2 hD, fun z => n.2 (hp _ z)⟩ (RVs.adopt hp hD r)
  | _, _, .xst h r => .xst h (RVs.adopt hp hD r)
  | _, _, .ref h => .ref (live_app h)
  | _, _, .dead h => .dead (live_app h)
theorem RVs.adopt {K : PySem.W.Frag} {β : Bt} {H : Hp} {D : Addr} {pr : List Addr} (hp : ∀ q, q ∈ pr → q ∈ β.pr) (hD : D ∈ β.pr) : ∀ {ws : List W} {vs : List V}, RVs K β H ws vs → RVs K ⟨β.l ++ [some D], pr⟩ H ws vs
  | _, _, .nil => .nil
  | _, _, .cons h r => .cons (RV.adopt hp hD h) (RVs.adopt hp hD r)
end
theorem RF.adopt {K : PySem.W.Frag} {β : Bt} {H : Hp} {D : Addr} {pr : List Addr} {κ : Type} (hp : ∀ q, q ∈ pr → q ∈ β.pr) (hD : D ∈ β.pr) : ∀ {ws : List (κ × W)} {vs : List (κ × V)}, RF K β H ws vs → RF K ⟨β.l ++ [some D], pr⟩ H ws vs
  | _, _, .nil => .nil
  | _, _, .cons h r => .cons (RV.adopt hp hD h) (RF.adopt hp hD r)
theorem ro_adopt {K : PySem.W.Frag} {Cl : Nat → Addr} {β : Bt} {H : Hp} {D : Addr} {pr : List Addr} (hp : ∀ q, q ∈ pr → q ∈ β.pr) (hD : D ∈ β.pr) {a : Addr} {o : Ob} (h : RO K Cl β H a o) : RO K Cl (Bt.mk (β.l ++ [some D]) pr) H a o := by
  cases o with
  | lst xs => obtain ⟨vs, h1, h2⟩ := h; exact ⟨vs, h1, h2.adopt hp hD⟩
  | dK kvs => obtain ⟨vs, h1, h2⟩ := h; exact ⟨vs, h1, h2.adopt hp hD⟩
  | dT kvs => obtain ⟨vs, h1, h2⟩ := h; exact ⟨vs, h1, h2.adopt hp hD⟩
  | ins c fs => obtain ⟨d, vs, h1, h2⟩ := h; exact ⟨d, vs, h1, h2.adopt hp hD⟩
  | dead => exact h
theorem se_lcS {K : PySem.W.Frag} {wi : TI} {mi : MI} {n : NT} {mt : MT} {me : ME} {vs : List Nat} (hw : NT.within vs n = true) (hi : ∀ β H σ s st R, HR K Cl β H st → SR K β H s σ → PoI K Cl E β H R (mi s st) → wi σ H R) :
    SE K Cl E (tLc wi (NT.g K n) (tMT K Cl E0 mt) (tM K Cl E0 me) vs) (mLcS mi n mt me vs) :=
  se_lcG _ hw hi fun β1 H1 st1 β' H' D acs ws st' Q hr1 e' hr' hp' hd' ra hD h => by
    have hsub : ∀ q, q ∈ β'.pr.filter (fun q => decide (q ≠ D)) → q ∈ β'.pr := fun q hq => (List.mem_filter.mp hq).1
    have nD : ∀ i : Nat, β'.l[i]? ≠ some (some D) := (hr'.prot D hp').2
    have ed := Ext.drop e' (fun q hq => (hr1.prot q hq).1) hD
    have ra' := ra.adopt hsub hp'
    refine h ⟨β'.l ++ [some D], β'.pr.filter fun q => decide (q ≠ D)⟩ H' _ ⟨ed.tup, fun q us hq n => ⟨(ed.lst q us hq n).1, fun i z => ?_, (ed.lst q us hq n).2.2⟩, ed.frz, fun i o hi => (ed.live i o hi).imp live_app live_app, ed.prot⟩ ⟨?_, ?_, ?_, ?_, ?_⟩ (.ref ?_)
    · rcases app_at z with z | ⟨_, z⟩
      · exact (ed.lst q us hq n).2.1 i z
      · cases z; rw [hD] at hq; cases hq
    · rw [List.length_append, List.length_append, hr'.len] <;> rfl
    · intro i j a hi hj
      rcases app_at hi with hi | ⟨hi, ei⟩
      · rcases app_at hj with hj | ⟨hj, ej⟩
        · exact hr'.inj i j a hi hj
        · cases ej; exact absurd hi (nD i)
      · rcases app_at hj with hj | ⟨hj, ej⟩
        · cases ei; exact absurd hj (nD j)
        · rw [hi, hj]
    · intro i a ob hi0 ho
      rcases app_at hi0 with hi | ⟨hi, ei⟩
      · have hl : i < st'.length := by rw [← hr'.len]; exact (List.getElem?_eq_some_iff.mp hi).1
        rw [List.getElem?_append_left hl] at ho
        exact ro_adopt hsub hp' (hr'.ob i a ob hi ho)
      · cases ei
        rw [hi, hr'.len, List.getElem?_append_right (Nat.le_refl _), Nat.sub_self] at ho
        cases ho
        exact ⟨acs, hd', ra'⟩
    · intro i hi
      rcases app_at hi with hi | ⟨_, ei⟩
      · have hl : i < st'.length := by rw [← hr'.len]; exact (List.getElem?_eq_some_iff.mp hi).1
        rw [List.getElem?_append_left hl]
        exact hr'.dead i hi
      · cases ei
    · intro q hq
      have hq2 := List.mem_filter.mp hq
      refine ⟨(hr'.prot q hq2.1).1, fun i z => ?_⟩
      rcases app_at z with z | ⟨_, z⟩
      · exact (hr'.prot q hq2.1).2 i z
      · cases z; exact absurd rfl (of_decide_eq_true hq2.2)
    · show (β'.l ++ [some D])[st'.length]? = some (some D)
      rw [← hr'.len]; simp
theorem je_lc {elt tg iter : Expr} {ifs : List Expr} {scope : Scope} {own : List (Str × Nat)} {pos : Pos} {mi : MI} {n : NT} {mt : MT} {me : ME} (hc : X.calm = true) (hN : X.N.Nodup) (hi : JI X Cl E tg iter mi) (ok : BlkOk X.N X.env.scope scope own)
    (hg : ∀ (s : Shared) (H : Hp) (C : Addr) (cl : List (Str × Addr)) (fp : List Addr), JN (X.blk s H scope (compEnvC scope cl C X.env) fp) tg n) (ht : ∀ (s : Shared) (H : Hp) (C : Addr) (cl : List (Str × Addr)) (fp : List Addr), JTs (X.blk s H scope (compEnvC scope cl C X.env) fp) Cl E0 ifs mt)
    (he : ∀ (s : Shared) (H : Hp) (C : Addr) (cl : List (Str × Addr)) (fp : List Addr), JE (X.blk s H scope (compEnvC scope cl C X.env) fp) Cl E0 elt me) (hw : NT.within (own.map (·.2)) n = true := by rfl) (hs : ∀ x, foldedSetIterable iter X.env x = pure x := by intro _; rfl) :
    JE X Cl E (.ListComp elt [⟨tg, iter, ifs, 0⟩] scope pos) (mLc mi n mt me (own.map (·.2))) := by
  obtain ⟨_, p1, q1⟩ := hi.ex
  exact ⟨_, pe_lc hc hN p1 ok (fun s H C cl fp => (hg s H C cl fp).pg) (fun s H C cl fp => (ht s H C cl fp).ex) (fun s H C cl fp => (he s H C cl fp).pe) hs, se_lc hw q1⟩
/-- name = [..] -/
theorem js_setLc (i : Nat) {y : Str} {py : Pos} {elt tg iter : Expr} {ifs : List Expr} {scope : Scope} {own : List (Str × Nat)} {pos spos : Pos} {mi : MI} {n : NT} {mt : MT} {me : ME} (hc : X.calm = true) (hN : X.N.Nodup)
    (hsw : swapsWith (.ListComp elt [⟨tg, iter, ifs, 0⟩] scope pos) (some (.Name y py)) spos.line X.env = pure true) (hi : JI X Cl E tg iter mi) (ok : BlkOk X.N X.env.scope scope own)
    (hg : ∀ (s : Shared) (H : Hp) (C : Addr) (cl : List (Str × Addr)) (fp : List Addr), JN (X.blk s H scope (compEnvC scope cl C X.env) fp) tg n) (ht : ∀ (s : Shared) (H : Hp) (C : Addr) (cl : List (Str × Addr)) (fp : List Addr), JTs (X.blk s H scope (compEnvC scope cl C X.env) fp) Cl E0 ifs mt)
    (he : ∀ (s : Shared) (H : Hp) (C : Addr) (cl : List (Str × Addr)) (fp : List Addr), JE (X.blk s H scope (compEnvC scope cl C X.env) fp) Cl E0 elt me) (hy : X.N[i]? = some y := by rfl) (hyl : X.env.scope.names.lookup y = some .local := by rfl) (hw : NT.within (own.map (·.2)) n = true := by rfl) (hs : ∀ x, foldedSetIterable iter X.env x = pure x := by intro _; rfl) :
    JS X Cl E (.Assign [.Name y py] (.ListComp elt [⟨tg, iter, ifs, 0⟩] scope pos) spos) (mAsg (mLc mi n mt me (own.map (·.2))) (mGN i)) := by
  obtain ⟨_, p1, q1⟩ := hi.ex
  refine ⟨_, ps_setLc hc hN hy hyl hsw p1 ok (fun s H C cl fp => (hg s H C cl fp).pg) (fun s H C cl fp => (ht s H C cl fp).ex) (fun s H C cl fp => (he s H C cl fp).pe) hs, fun β H σ s st D hr hs h => se_lc hw q1 β H σ s st _ hr hs (h.run fun x st1 β1 H1 v _ e1 hr1 rx h1 => PoS.val h1 hr1 ((hs.ext e1).set rx))⟩
theorem je_lcS {elt tg iter : Expr} {ifs : List Expr} {scope : Scope} {own : List (Str × Nat)} {pos : Pos} {mi : MI} {n : NT} {mt : MT} {me : ME} (hc : X.calm = true) (hN : X.N.Nodup) (hi : JI X Cl E tg iter mi) (ok : BlkOk X.N X.env.scope scope own)
    (hg : ∀ (s : Shared) (H : Hp) (C : Addr) (cl : List (Str × Addr)) (fp : List Addr), JN (X.blk s H scope (compEnvC scope cl C X.env) fp) tg n) (ht : ∀ (s : Shared) (H : Hp) (C : Addr) (cl : List (Str × Addr)) (fp : List Addr), JTs (X.blk s H scope (compEnvC scope cl C X.env) fp) Cl E0 ifs mt)
    (he : ∀ (s : Shared) (H : Hp) (C : Addr) (cl : List (Str × Addr)) (fp : List Addr), JE (X.blk s H scope (compEnvC scope cl C X.env) fp) Cl E0 elt me) (hw : NT.within (own.map (·.2)) n = true := by rfl) (hs : ∀ x, foldedSetIterable iter X.env x = pure x := by intro _; rfl) :
    JE X Cl E (.ListComp elt [⟨tg, iter, ifs, 0⟩] scope pos) (mLcS mi n mt me (own.map (·.2))) := by
  obtain ⟨_, p1, q1⟩ := hi.ex
  exact ⟨_, pe_lc hc hN p1 ok (fun s H C cl fp => (hg s H C cl fp).pg) (fun s H C cl fp => (ht s H C cl fp).ex) (fun s H C cl fp => (he s H C cl fp).pe) hs, se_lcS hw q1⟩
theorem js_setLcS (i : Nat) {y : Str} {py : Pos} {elt tg iter : Expr} {ifs : List Expr} {scope : Scope} {own : List (Str × Nat)} {pos spos : Pos} {mi : MI} {n : NT} {mt : MT} {me : ME} (hc : X.calm = true) (hN : X.N.Nodup)
    (hsw : swapsWith (.ListComp elt [⟨tg, iter, ifs, 0⟩] scope pos) (some (.Name y py)) spos.line X.env = pure true) (hi : JI X Cl E tg iter mi) (ok : BlkOk X.N X.env.scope scope own)
    (hg : ∀ (s : Shared) (H : Hp) (C : Addr) (cl : List (Str × Addr)) (fp : List Addr), JN (X.blk s H scope (compEnvC scope cl C X.env) fp) tg n) (ht : ∀ (s : Shared) (H : Hp) (C : Addr) (cl : List (Str × Addr)) (fp : List Addr), JTs (X.blk s H scope (compEnvC scope cl C X.env) fp) Cl E0 ifs mt)
    (he : ∀ (s : Shared) (H : Hp) (C : Addr) (cl : List (Str × Addr)) (fp : List Addr), JE (X.blk s H scope (compEnvC scope cl C X.env) fp) Cl E0 elt me) (hy : X.N[i]? = some y := by rfl) (hyl : X.env.scope.names.lookup y = some .local := by rfl) (hw : NT.within (own.map (·.2)) n = true := by rfl) (hs : ∀ x, foldedSetIterable iter X.env x = pure x := by intro _; rfl) :
    JS X Cl E (.Assign [.Name y py] (.ListComp elt [⟨tg, iter, ifs, 0⟩] scope pos) spos) (mAsg (mLcS mi n mt me (own.map (·.2))) (mGN i)) := by
  obtain ⟨_, p1, q1⟩ := hi.ex
  refine ⟨_, ps_setLc hc hN hy hyl hsw p1 ok (fun s H C cl fp => (hg s H C cl fp).pg) (fun s H C cl fp => (ht s H C cl fp).ex) (fun s H C cl fp => (he s H C cl fp).pe) hs, fun β H σ s st D hr hs h => se_lcS hw q1 β H σ s st _ hr hs (h.run fun x st1 β1 H1 v _ e1 hr1 rx h1 => PoS.val h1 hr1 ((hs.ext e1).set rx))⟩
end

/-! ### defs -/
/-- a def's body run with its arguments; nothing is raised -/
@[simp] def mDef (n k : Nat) (body : MS) : MF := fun ws st => if ws.length = n then match body (ws.map some ++ List.replicate k none) st with
    | .rt w st1 => .ok w st1
    | .nx _ st1 => .ok .non st1
    | _ => .stuck
  else .stuck
/-- .. that may raise -/
@[simp] def mDefX (n k : Nat) (body : MS) : MF := fun ws st => if ws.length = n then match body (ws.map some ++ List.replicate k none) st with
    | .rt w st1 => .ok w st1
    | .nx _ st1 => .ok .non st1
    | .exc c fs st1 => .exc c fs st1
    | _ => .stuck
  else .stuck
def NoX (m : MF) : Prop := ∀ ws st c fs st', m ws st ≠ .exc c fs st'
theorem nox_def {n k : Nat} {body : MS} : NoX (mDef n k body) := fun ws st c fs st' z => by
  unfold mDef at z
  split at z
  · split at z <;> cases z
  · cases z
/-- the promise that a def does what its mirror does -/
def spM (K : PySem.W.Frag) (Cl : Nat → Addr) (n : Nat) (m : MF) : Sp := fun vs H Q E => vs.length = n ∧ ∃ β ws st, HR K Cl β H st ∧ RVs K β H ws vs ∧ Po K Cl E β H Q (m ws st)
section
variable {P : Program} {w : World} {K : PySem.W.Frag} {Cl : Nat → Addr} {mg : Str → Option Value} {base : Heap}
theorem sr_start {β : Bt} {H : Hp} {ws : List W} {vs : List V} {N : List Str} {k : Nat} (r : RVs K β H ws vs) (hk : N.length - vs.length = k) : SR K β H (ws.map some ++ List.replicate k none) (L2.start N vs) := by
  unfold L2.start
  rw [hk]
  refine ⟨by simp [r.length], fun i u hi => ?_⟩
  by_cases hl : i < ws.length
  · rw [List.getElem?_append_left (by simpa using hl), List.getElem?_map] at hi
    cases e : ws[i]? with
    | none => rw [e] at hi; cases hi
    | some x =>
      rw [e] at hi
      cases hi
      obtain ⟨v, hv, rv⟩ := r.get e
      exact ⟨v, by rw [List.getElem?_append_left (by rw [List.length_map, ← r.length]; exact hl), List.getElem?_map, hv] <;> rfl, rv⟩
  · rw [List.getElem?_append_right (by simpa using hl)] at hi
    by_cases h2 : i - (ws.map some).length < k
    · rw [List.getElem?_replicate_of_lt h2] at hi; cases hi
    · rw [List.getElem?_eq_none (by simpa using h2)] at hi; cases hi
theorem fn_ok {x qual : Str} {st : Stmt} {f : Addr} {fd : FuncData} {N ps : List Str} {k n j : Nat} {body : MS} (F : Fun K x qual st f fd) (S : FnScope N ps (defScope st)) (hn : ps.length = n) (hj : N.length - n = j)
    (hb : ∀ (cdv : Value) (A : Around) (outer : List Env) (s : Shared) (H : Hp) (E : XK), Room k (A.deeper (envOfC qual (defScope st) s.heap.objs.size f cdv)) → JSs (cxOf CX0 P w K mg base N qual (defScope st) f cdv A outer s H E).nox Cl E0 (defBody st) body) :
    FnOk P w K mg base CX0 (k + 1) f fd ps (spM K Cl n (mDef n j body)) := by
  refine F.ok S (fun vs H Q E h => h.1.trans hn.symm) (fun cdv A outer s H vs Q E hr h => ?_)
  obtain ⟨hl, β, ws, sto, hR, rv, po⟩ := h
  obtain ⟨t, p, q⟩ := (hb cdv A outer s H E hr).ex
  refine ⟨t, p, q β H _ (ws.map some ++ List.replicate j none) sto _ hR (sr_start rv (by rw [hl]; exact hj)) ?_⟩
  unfold mDef at po
  rw [if_pos (rv.length.trans hl)] at po
  split at po
  · rename_i w1 st1 e
    rw [e]
    exact po
  · rename_i s1 st1 e
    rw [e]
    exact fun β' H' σ' e' hr' hs' => po β' H' .non e' hr' .non
  · exact po.elim
theorem fn_okX {x qual : Str} {st : Stmt} {f : Addr} {fd : FuncData} {N ps : List Str} {k n j : Nat} {body : MS} (F : Fun K x qual st f fd) (S : FnScope N ps (defScope st)) (hn : ps.length = n) (hj : N.length - n = j)
    (hb : ∀ (cdv : Value) (A : Around) (outer : List Env) (s : Shared) (H : Hp) (E : XK), Room k (A.deeper (envOfC qual (defScope st) s.heap.objs.size f cdv)) → JSs (cxOf (L2.CX P w) P w K mg base N qual (defScope st) f cdv A outer s H E) Cl E (defBody st) body) :
    FnOk P w K mg base (L2.CX P w) (k + 1) f fd ps (spM K Cl n (mDefX n j body)) := by
  refine F.okX S (fun vs H Q E h => h.1.trans hn.symm) (fun cdv A outer s H vs Q E hr h => ?_)
  obtain ⟨hl, β, ws, sto, hR, rv, po⟩ := h
  obtain ⟨t, p, q⟩ := (hb cdv A outer s H E hr).ex
  refine ⟨t, p, q β H _ (ws.map some ++ List.replicate j none) sto _ hR (sr_start rv (by rw [hl]; exact hj)) ?_⟩
  unfold mDefX at po
  rw [if_pos (rv.length.trans hl)] at po
  split at po
  · rename_i w1 st1 e
    rw [e]
    exact po
  · rename_i s1 st1 e
    rw [e]
    exact fun β' H' σ' e' hr' hs' => po β' H' .non e' hr' .non
  · rename_i c fs st1 e
    rw [e]
    exact po
  · exact po.elim
end

/-! ### calls -/
@[simp] def mCall (n : Nat) (m : MF) (a : MA) : ME := fun s st => (a s st).bind fun ws st1 => if ws.length = n then m ws st1 else .stuck
@[simp] def mMeth (c : Nat) (nm : Str) (n : Nat) (m : MF) (o : ME) (a : MA) : ME := fun s st => (o s st).bind fun x st1 => match x with
  | .ref i => match st1[i]? with
    | some (.ins d fs) => if d = c ∧ fs.lookup nm = none then (a s st1).bind fun ws st2 => if ws.length + 1 = n then m (x :: ws) st2 else .stuck else .stuck
    | _ => .stuck
  | _ => .stuck
@[simp] def mMake (c n : Nat) (m : MF) (a : MA) : ME := fun s st => (a s st).bind fun ws st1 => if ws.length + 1 = n then (m (.ref st1.length :: ws) (st1 ++ [.ins c []])).bind fun r st2 => match r with
    | .non => match st2[st1.length]? with
      | some (.ins _ _) => .ok (.ref st1.length) st2
      | _ => .stuck
    | _ => .stuck
  else .stuck
section
variable {X : Cx} {Cl : Nat → Addr} {E E1 : XK} {pos p apos : Pos} {ma mo : ME} {mr : MA} {e o : Expr} {es : List Expr} {k n f : Nat} {CX : CXT} {fd : FuncData} {ps : List Str} {m : MF} {x : Str}
/-- what a callee may raise reaches what is wished of exceptions here -/
structure Let (X : Cx) (CX : CXT) (E : XK) (m : MF) (E1 : XK) : Prop where
  ps : Passes CX X E1
  po : ∀ {Cl : Nat → Addr} {β : Bt} {H : Hp} {Q : VK} {ws : List W} {st : Sto}, Po X.K Cl E β H Q (m ws st) → Po X.K Cl E1 β H Q (m ws st)
theorem let0 (h : NoX m) : Let X CX0 E m E0 := ⟨pass0, fun {Cl β H Q ws st} hp => PoW.E0 hp (h ws st)⟩
theorem letX (h : Passes (L2.CX X.prog X.w) X E) : Let X (L2.CX X.prog X.w) E m E := ⟨h, fun h => h⟩
theorem se_call {K : PySem.W.Frag} {ta : TA} (hl : ∀ {β : Bt} {H : Hp} {Q : VK} {ws : List W} {st : Sto}, Po K Cl E β H Q (m ws st) → Po K Cl E1 β H Q (m ws st)) (q : SA K Cl E ta mr) : SE K Cl E (tCall (spM K Cl n m) [] E1 ta) (mCall n m mr) := fun β H σ s st Q hr hs h => q β H σ s st _ hr hs (h.bind fun ws st1 β1 H1 vs _ e1 hr1 rv h1 => by
  split at h1
  · rename_i hn
    rw [List.append_nil]
    exact ⟨by rw [← rv.length]; exact hn, β1, ws, st1, hr1, rv, hl h1⟩
  · exact h1.elim)
theorem je_call (F : FnOk X.prog X.w X.K X.mg X.base CX k f fd ps (spM X.K Cl n m)) (hr : Room k X.A) (hm : X.mg x = some (.ref f)) (hk : PySem.W.keepIn X.K (.ref f) = true) (hb : Binds X.K fd ps []) (hl : Let X CX E m E1) (ha : JA X Cl E (e :: es) mr) (hg : Gl X x := by rfl)
    (hdb : (x == ("__debug__" : Str)) = false := by decide) (he : starEach (e :: es) X.env = (false, eval e X.env) :: starEach es X.env := by rfl) (hpl : (backTo pos (starEach es X.env)).any (·.1) = false := by rfl) : JE X Cl E (.Call (.Name x p) (e :: es) [] pos) (mCall n m mr) := by
  obtain ⟨_, pr, q⟩ := ha.ex
  exact ⟨_, pe_call F hr hg hm hk hb .nil hl.ps pr hdb he hpl, se_call hl.po q⟩
theorem sa_nil {K : PySem.W.Frag} : SA K Cl E tNil mNil := fun β H σ s st Q hr hs h => PoG.val h hr .nil
theorem je_call0 (F : FnOk X.prog X.w X.K X.mg X.base CX k f fd ps (spM X.K Cl n m)) (hr : Room k X.A) (hm : X.mg x = some (.ref f)) (hk : PySem.W.keepIn X.K (.ref f) = true) (hb : Binds X.K fd ps []) (hl : Let X CX E m E1) (hg : Gl X x := by rfl) (hdb : (x == ("__debug__" : Str)) = false := by decide) :
    JE X Cl E (.Call (.Name x p) [] [] pos) (mCall n m mNil) := ⟨_, pe_call0 F hr hg hm hk hb .nil hl.ps hdb, se_call hl.po sa_nil⟩
theorem se_meth {K : PySem.W.Frag} {c : Nat} {nm : Str} {to : TE} {ta : TA} (hl : ∀ {β : Bt} {H : Hp} {Q : VK} {ws : List W} {st : Sto}, Po K Cl E β H Q (m ws st) → Po K Cl E1 β H Q (m ws st)) (qo : SE K Cl E to mo) (q : SA K Cl E ta mr) : SE K Cl E (tMeth (Cl c) nm (spM K Cl n m) [] E1 to ta) (mMeth c nm n m mo mr) := fun β H σ s st Q hr hs h => qo β H σ s st _ hr hs (h.bind fun x st1 β1 H1 v _ e1 hr1 rx h1 => by
  cases x with
  | ref i =>
    simp only at h1
    split at h1
    · rename_i d fs es
      split at h1
      · rename_i hd
        obtain ⟨rfl, hno⟩ := hd
        obtain ⟨a, rfl, hb, dx, gs, hv, hrs⟩ := rx.atRef hr1 es (by intro z; cases z)
        refine ⟨a, dx, gs, rfl, hv, hrs.lookN hno, q β1 H1 σ s st1 _ hr1 (hs.ext e1) (h1.bind fun ws st2 β2 H2 vs _ e2 hr2 rv h2 => ?_)⟩
        split at h2
        · rename_i hn
          rw [List.append_nil]
          exact ⟨by rw [List.length_cons, ← rv.length]; exact hn, β2, _, st2, hr2, .cons (rx.ext e2) rv, hl h2⟩
        · exact h2.elim
      · exact h1.elim
    · exact h1.elim
  | _ => exact h1.elim)
theorem je_meth {c : Nat} {nm : Str} {pl : Sem Bool} (hc : Cls X.K (Cl c)) (hm : Meth X.K (Cl c) nm f) (F : FnOk X.prog X.w X.K X.mg X.base CX k f fd ps (spM X.K Cl n m)) (hr : Room k X.A) (hb : Binds X.K fd ps []) (hl : Let X CX E m E1) (ho : JE X Cl E o mo) (ha : JA X Cl E (e :: es) mr)
    (hst : starEach (e :: es) X.env = (false, eval e X.env) :: starEach es X.env := by rfl) (hpl : (backTo pos (starEach es X.env)).any (·.1) = false := by rfl)
    (ht : eval (.Call (.Attribute o nm apos) (e :: es) [] pos) X.env = (do
      let ov ← eval o X.env
      standAt apos.atName
      let (f, first) ← holding [ov] (getMethod ov nm pl)
      callWith pos f first (backTo pos (starEach (e :: es) X.env)) (backToKw pos (keywordEach [] X.env))) := by rfl) :
    JE X Cl E (.Call (.Attribute o nm apos) (e :: es) [] pos) (mMeth c nm n m mo mr) := by
  obtain ⟨_, po, qo⟩ := ho.ex
  obtain ⟨_, pr, q⟩ := ha.ex
  exact ⟨_, pe_meth po hc hm F hr hb .nil hl.ps pr hst hpl ht, se_meth hl.po qo q⟩
theorem je_meth0 {c : Nat} {nm : Str} {pl : Sem Bool} (hc : Cls X.K (Cl c)) (hm : Meth X.K (Cl c) nm f) (F : FnOk X.prog X.w X.K X.mg X.base CX k f fd ps (spM X.K Cl n m)) (hr : Room k X.A) (hb : Binds X.K fd ps []) (hl : Let X CX E m E1) (ho : JE X Cl E o mo)
    (ht : eval (.Call (.Attribute o nm apos) [] [] pos) X.env = (do
      let ov ← eval o X.env
      standAt apos.atName
      let (f, first) ← holding [ov] (getMethod ov nm pl)
      callWith pos f first (backTo pos (starEach [] X.env)) (backToKw pos (keywordEach [] X.env))) := by rfl) :
    JE X Cl E (.Call (.Attribute o nm apos) [] [] pos) (mMeth c nm n m mo mNil) := by
  obtain ⟨_, po, qo⟩ := ho.ex
  exact ⟨_, pe_meth0 po hc hm F hr hb .nil hl.ps ht, se_meth hl.po qo sa_nil⟩
theorem se_make {K : PySem.W.Frag} {c : Nat} {ta : TA} (hl : ∀ {β : Bt} {H : Hp} {Q : VK} {ws : List W} {st : Sto}, Po K Cl E β H Q (m ws st) → Po K Cl E1 β H Q (m ws st)) (q : SA K Cl E ta mr) : SE K Cl E (tMake (Cl c) (spM K Cl n m) [] E1 ta) (mMake c n m mr) := fun β H σ s st Q hr hs h => q β H σ s st _ hr hs (h.bind fun ws st1 β1 H1 vs _ e1 hr1 rv h1 x dx hx hd hne => by
  split at h1
  · rename_i hn
    rw [List.append_nil]
    have hx2 : upd H1 dx (.own x) x = none := by rw [upd_ne hne.symm]; exact hx
    have ea : Ext K β1 H1 β1 (upd H1 dx (.own x)) := Ext.new hd
    have eb : Ext K β1 (upd H1 dx (.own x)) (β1.push x) (upd (upd H1 dx (.own x)) x (.ins (Cl c) dx [])) := Ext.push hx2
    have hr2 : HR K Cl (β1.push x) (upd (upd H1 dx (.own x)) x (.ins (Cl c) dx [])) (st1 ++ [.ins c []]) := (hr1.new hd).push hx2 ⟨dx, [], upd_same, .nil⟩
    have hb : (β1.push x).l[st1.length]? = some (some x) := by rw [← hr1.len]; exact push_last
    refine ⟨by rw [List.length_cons, ← rv.length]; exact hn, β1.push x, _, _, hr2, .cons (.ref hb) ((rv.ext ea).ext eb), hl ?_⟩
    refine ((PoG.ext (ea.trans eb) h1).bind fun r st2 β2 H2 v eq e2 hr3 rr h2 => ?_)
    split at h2
    · cases rr
      refine ⟨rfl, ?_⟩
      split at h2
      · rename_i es
        exact PoG.val h2 hr3 (.ref (hr3.stay e2 hb es (by intro z; cases z)))
      · exact h2.elim
    · exact h2.elim
  · exact h1.elim)
theorem je_make {c : Nat} (M : Mk X.K (Cl c) f) (F : FnOk X.prog X.w X.K X.mg X.base CX k f fd ps (spM X.K Cl n m)) (hr : Room (k + 1) X.A) (hm : X.mg x = some (.ref (Cl c))) (hb : Binds X.K fd ps []) (hl : Let X CX E m E1) (ha : JA X Cl E (e :: es) mr) (hg : Gl X x := by rfl)
    (hdb : (x == ("__debug__" : Str)) = false := by decide) (he : starEach (e :: es) X.env = (false, eval e X.env) :: starEach es X.env := by rfl) (hpl : (backTo pos (starEach es X.env)).any (·.1) = false := by rfl) : JE X Cl E (.Call (.Name x p) (e :: es) [] pos) (mMake c n m mr) := by
  obtain ⟨_, pr, q⟩ := ha.ex
  exact ⟨_, pe_make M F hr hg hm hb .nil hl.ps pr hdb he hpl, se_make hl.po q⟩
theorem je_make0 {c : Nat} (M : Mk X.K (Cl c) f) (F : FnOk X.prog X.w X.K X.mg X.base CX k f fd ps (spM X.K Cl n m)) (hr : Room (k + 1) X.A) (hm : X.mg x = some (.ref (Cl c))) (hb : Binds X.K fd ps []) (hl : Let X CX E m E1) (hg : Gl X x := by rfl) (hdb : (x == ("__debug__" : Str)) = false := by decide) :
    JE X Cl E (.Call (.Name x p) [] [] pos) (mMake c n m mNil) := ⟨_, pe_make0 M F hr hg hm hb .nil hl.ps hdb, se_make hl.po sa_nil⟩
end

theorem room65 {A : Around} {k : Nat} (hr : Room k A) : A.units + 65 < cLine := by have := hr.un; omega
theorem room1 {A : Around} {k : Nat} (hr : Room k A) : A.units + 1 < cLine := by have := hr.un; omega

/-! ### the law's end -/
def spLaw (K : PySem.W.Frag) (Cl : Nat → Addr) (m : MF) : Sp := spM K Cl 1 m
theorem rv_ints {K : PySem.W.Frag} {β : Bt} {H : Hp} : ∀ ns : List Int, RVs K β H (ns.map W.int) (ns.map V.int)
  | [] => .nil
  | n :: ns => .cons (.int n) (rv_ints ns)
theorem law_sp {K : PySem.W.Frag} {Cl : Nat → Addr} {m : MF} {H : Hp} {a : Addr} {ns : List Int} (hO : Only H) (hS : SqL K H a (ns.map V.int)) (h : ∃ st, m [.xst (ns.map W.int)] [] = .ok (.bl true) st) :
    spLaw K Cl m [.ref a] H (fun v _ => v = .bl true) fun _ _ _ => False := by
  obtain ⟨st, h⟩ := h
  refine ⟨rfl, ⟨[], []⟩, [.xst (ns.map W.int)], [], ⟨rfl, fun i j b hi => by simp at hi, fun i b o hi => by simp at hi, fun i hi => by simp at hi, fun p hp => by simp at hp⟩, .cons (.xst (vs := ns.map V.int) ?_ (rv_ints ns)) .nil, ?_⟩
  · rcases hS with (hS | hS) | hS
    · rcases hO a with z | ⟨o, xs, z⟩
      · rw [hS] at z; cases z
      · rw [hS] at z; cases z
    · exact .inr hS
    · exact .inl hS
  · rw [h]
    intro β' H' v e hr r
    cases r
    rfl
end Mi
/-! The mirror layer, part P: plain rules for the mirrors' loops. -/
namespace Mi
open PySem L2

/-- what a loop's body may come to: go on with `I`, or end as `R` says -/
@[simp] def Step (I : Slo → Sto → Prop) (R : SO → Prop) : SO → Prop
  | .nx s st => I s st
  | .ct s st => I s st
  | .bk s st => R (.nx s st)
  | .rt w st => R (.rt w st)
  | .exc c fs st => R (.exc c fs st)
  | .stuck => False
theorem loop_vals_at {ws : List W} {g : MG} {body : MS} (I : Nat → Slo → Sto → Prop) (R : SO → Prop)
    (step : ∀ i w s st, ws[i]? = some w → I i s st → ∃ s1 st1, g w s st = some (s1, st1) ∧ Step (I (i + 1)) R (body s1 st1))
    (fin : ∀ s st, I ws.length s st → R (.nx s st)) :
    ∀ (k i : Nat) (s : Slo) (st : Sto), i + k = ws.length → I i s st → R (mLoop (.vals ws) g body k i s st)
  | 0, i, s, st, e, h => by
    have e' : i = ws.length := by omega
    subst e'
    simp only [mLoop, Src.fine, if_true]
    exact fin s st h
  | k + 1, i, s, st, e, h => by
    have hi : i < ws.length := by omega
    obtain ⟨s1, st1, hg, hb⟩ := step i ws[i] s st (List.getElem?_eq_getElem hi) h
    have ih := loop_vals_at I R step fin k (i + 1)
    simp only [mLoop, Src.fine, if_true, Src.at, List.getElem?_eq_getElem hi, hg]
    cases hc : body s1 st1 with
    | nx s2 st2 => rw [hc] at hb; exact ih s2 st2 (by omega) hb
    | ct s2 st2 => rw [hc] at hb; exact ih s2 st2 (by omega) hb
    | bk s2 st2 => rw [hc] at hb; exact hb
    | rt w2 st2 => rw [hc] at hb; exact hb
    | exc c fs st2 => rw [hc] at hb; exact hb
    | stuck => rw [hc] at hb; exact hb.elim
theorem loop_vals {ws : List W} {g : MG} {body : MS} (I : Nat → Slo → Sto → Prop) (R : SO → Prop) {s : Slo} {st : Sto} (h0 : I 0 s st)
    (step : ∀ i w s st, ws[i]? = some w → I i s st → ∃ s1 st1, g w s st = some (s1, st1) ∧ Step (I (i + 1)) R (body s1 st1))
    (fin : ∀ s st, I ws.length s st → R (.nx s st)) :
    R (mLoop (.vals ws) g body ws.length 0 s st) := loop_vals_at I R step fin _ 0 s st (by omega) h0
/-- as an equation's left side: the loop ends well, and `I` holds there -/
theorem loop_nx {ws : List W} {g : MG} {body : MS} {n : Nat} (hn : ws.length = n) (I : Nat → Slo → Sto → Prop) {s : Slo} {st : Sto} (h0 : I 0 s st)
    (step : ∀ i w s st, ws[i]? = some w → I i s st → ∃ s1 st1, g w s st = some (s1, st1) ∧ ∃ s2 st2, (body s1 st1 = .nx s2 st2 ∨ body s1 st1 = .ct s2 st2) ∧ I (i + 1) s2 st2) :
    ∃ s2 st2, mLoop (.vals ws) g body n 0 s st = .nx s2 st2 ∧ I n s2 st2 := by
  subst hn
  refine loop_vals (R := fun o => ∃ s2 st2, o = .nx s2 st2 ∧ I ws.length s2 st2) I h0 (fun i w s st hw hi => ?_) (fun s st h => ⟨s, st, rfl, h⟩)
  obtain ⟨s1, st1, hg, s2, st2, hb, h2⟩ := step i w s st hw hi
  refine ⟨s1, st1, hg, ?_⟩
  rcases hb with hb | hb <;> rw [hb] <;> exact h2
theorem loop_st {ws : List W} {g : MG} {body : MS} {n : Nat} (hn : ws.length = n) (I : Nat → Slo → Sto → Prop) {s : Slo} {st : Sto} (h0 : I 0 s st)
    (step : ∀ i w s st, ws[i]? = some w → I i s st → ∃ s1 st1, g w s st = some (s1, st1) ∧ Step (I (i + 1)) (fun _ => False) (body s1 st1)) :
    ∃ s2 st2, mLoop (.vals ws) g body n 0 s st = .nx s2 st2 ∧ I n s2 st2 := by
  refine loop_nx hn I h0 fun i w s st hw hi => ?_
  obtain ⟨s1, st1, hg, hb⟩ := step i w s st hw hi
  refine ⟨s1, st1, hg, ?_⟩
  cases hc : body s1 st1 with
  | nx s2 st2 => rw [hc] at hb; exact ⟨s2, st2, .inl rfl, hb⟩
  | ct s2 st2 => rw [hc] at hb; exact ⟨s2, st2, .inr rfl, hb⟩
  | bk s2 st2 => rw [hc] at hb; exact hb.elim
  | rt w2 st2 => rw [hc] at hb; exact hb.elim
  | exc c fs st2 => rw [hc] at hb; exact hb.elim
  | stuck => rw [hc] at hb; exact hb.elim
@[simp] theorem Src.len_vals (ws : List W) : (Src.vals ws).len = ws.length := rfl
@[simp] theorem rngW_len (lo : Int) (n : Nat) : (rngW lo n).length = n := by simp [rngW]
theorem rngW_get {lo : Int} {n i : Nat} {w : W} (h : (rngW lo n)[i]? = some w) : i < n ∧ w = .int (lo + (i : Nat)) := by
  simp only [rngW, List.getElem?_map] at h
  rcases Nat.lt_or_ge i n with hi | hi
  · rw [List.getElem?_range hi] at h
    simp at h
    exact ⟨hi, h.symm⟩
  · rw [List.getElem?_eq_none (by simpa using hi)] at h
    simp at h
theorem rng0_get {n i : Nat} {w : W} (h : (rngW 0 n)[i]? = some w) : i < n ∧ w = .int (i : Nat) := by
  have h1 := rngW_get h
  rwa [Int.zero_add] at h1
/-- a walk that changes no store -/
theorem lc_vals_at {ws : List W} {g : MG} {t : MT} {e : ME} {s : Slo} {st : Sto} (p : W → Bool) (q : W → W)
    (h : ∀ w ∈ ws, ∃ s2, g w s st = some (s2, st) ∧ t s2 st = .ok (p w) st ∧ (p w = true → e s2 st = .ok (q w) st)) :
    ∀ (k i : Nat) (acc : List W), i + k = ws.length → acc.length + k ≤ sizeLine →
      mLcLoop (.vals ws) g t e s k i acc st = .ok (acc ++ ((ws.drop i).filter p).map q) st
  | 0, i, acc, e, hl => by
    have e' : i = ws.length := by omega
    subst e'
    simp [mLcLoop, Src.fine]
  | k + 1, i, acc, e, hl => by
    have hi : i < ws.length := by omega
    obtain ⟨s2, hg, ht, he⟩ := h ws[i] (List.getElem_mem hi)
    have hd := List.drop_eq_getElem_cons hi
    simp only [mLcLoop, Src.fine, if_true, Src.at, List.getElem?_eq_getElem hi, hg, ht]
    cases hp : p ws[i] with
    | true =>
      simp only [he hp]
      rw [if_pos (by omega), lc_vals_at p q h k (i + 1) _ (by omega) (by simp; omega)]
      rw [hd, List.filter_cons, hp]
      simp only [if_true, List.map_cons, List.append_assoc, List.singleton_append]
    | false =>
      simp only []
      rw [lc_vals_at p q h k (i + 1) _ (by omega) (by omega), hd, List.filter_cons, hp]
      simp only [Bool.false_eq_true, if_false]
theorem lc_vals {ws : List W} {g : MG} {t : MT} {e : ME} {s : Slo} {st : Sto} (p : W → Bool) (q : W → W) (hl : ws.length ≤ sizeLine)
    (h : ∀ w ∈ ws, ∃ s2, g w s st = some (s2, st) ∧ t s2 st = .ok (p w) st ∧ (p w = true → e s2 st = .ok (q w) st)) :
    mLcLoop (.vals ws) g t e s ws.length 0 [] st = .ok ((ws.filter p).map q) st := by
  rw [lc_vals_at p q h _ 0 [] (by omega) (by simpa using hl)]
  simp
/-- a call's good end -/
@[simp] def Out.post {α : Type} (o : Out α) (P : α → Sto → Prop) : Prop := match o with
  | .ok a st => P a st
  | _ => False
theorem Out.post.get {α : Type} {o : Out α} {P : α → Sto → Prop} (h : o.post P) : ∃ a st, o = .ok a st ∧ P a st := by
  cases o with
  | ok a st => exact ⟨a, st, rfl, h⟩
  | exc c fs st => exact h.elim
  | stuck => exact h.elim
theorem atI_nn {α : Type} {xs : List α} {k : Int} {w : α} (h0 : 0 ≤ k) (h : xs[k.toNat]? = some w) : atI xs k = some w := by
  have hl : k.toNat < xs.length := (List.getElem?_eq_some_iff.mp h).1
  have h2 : ixN xs.length k = some k.toNat := by
    simp only [ixN, if_pos h0]
    rw [if_pos (by omega)]
  rw [atI, h2]
  exact h
@[simp] theorem shaped_int (i : Int) : SeqAt.shaped (.int i) = true := rfl
@[simp] theorem shaped_str (x : Str) : SeqAt.shaped (.str x) = PyData.strOk x := by simp [SeqAt.shaped, PyData.canLay0, PyData.depth]
@[simp] theorem shaped_bool (x : Bool) : SeqAt.shaped (.bool x) = true := rfl
@[simp] theorem shaped_none : SeqAt.shaped .none = true := rfl
@[simp] theorem eqv_ii (i j : Int) : PyData.eqv (.int i) (.int j) = decide (i = j) := by by_cases h : i = j <;> simp [PyData.eqv, h]
@[simp] theorem eqv_ss (i j : Str) : PyData.eqv (.str i) (.str j) = decide (i = j) := by by_cases h : i = j <;> simp [PyData.eqv, h]
@[simp] theorem eqv_bb (i j : Bool) : PyData.eqv (.bool i) (.bool j) = decide (i = j) := by by_cases h : i = j <;> simp [PyData.eqv, h]
@[simp] theorem eqv_nn : PyData.eqv .none .none = true := by simp [PyData.eqv]
@[simp] theorem eqv_is (i : Int) (j : Str) : PyData.eqv (.int i) (.str j) = false := by simp [PyData.eqv]
@[simp] theorem eqv_si (i : Int) (j : Str) : PyData.eqv (.str j) (.int i) = false := by simp [PyData.eqv]
@[simp] theorem eqv_in (i : Int) : PyData.eqv (.int i) .none = false := by simp [PyData.eqv]
@[simp] theorem eqv_ni (i : Int) : PyData.eqv .none (.int i) = false := by simp [PyData.eqv]
@[simp] theorem eqv_sn (i : Str) : PyData.eqv (.str i) .none = false := by simp [PyData.eqv]
@[simp] theorem eqv_ns (i : Str) : PyData.eqv .none (.str i) = false := by simp [PyData.eqv]
@[simp] theorem shaped_list (ds : List PyData) : SeqAt.shaped (.list ds) = (PyData.canLayAll0 ds && decide (PyData.depthAll ds + 1 ≤ 64)) := by simp [SeqAt.shaped, PyData.canLay0, PyData.depth]
@[simp] theorem shaped_tuple (ds : List PyData) : SeqAt.shaped (.tuple ds) = (PyData.canLayAll0 ds && decide (PyData.depthAll ds + 1 ≤ 64)) := by simp [SeqAt.shaped, PyData.canLay0, PyData.depth]
@[simp] theorem lay_nil : PyData.canLayAll0 [] = true := by simp [PyData.canLayAll0]
@[simp] theorem lay_cons (d : PyData) (ds : List PyData) : PyData.canLayAll0 (d :: ds) = (d.canLay0 && PyData.canLayAll0 ds) := by simp [PyData.canLayAll0]
@[simp] theorem lay_int (i : Int) : PyData.canLay0 (.int i) = true := by simp [PyData.canLay0]
@[simp] theorem lay_str (i : Str) : PyData.canLay0 (.str i) = PyData.strOk i := by simp [PyData.canLay0]
@[simp] theorem lay_bool (i : Bool) : PyData.canLay0 (.bool i) = true := by simp [PyData.canLay0]
@[simp] theorem lay_none : PyData.canLay0 .none = true := by simp [PyData.canLay0]
@[simp] theorem lay_tuple (ds : List PyData) : PyData.canLay0 (.tuple ds) = PyData.canLayAll0 ds := by simp [PyData.canLay0]
@[simp] theorem lay_list (ds : List PyData) : PyData.canLay0 (.list ds) = PyData.canLayAll0 ds := by simp [PyData.canLay0]
@[simp] theorem dep_nil : PyData.depthAll [] = 0 := by simp [PyData.depthAll]
@[simp] theorem dep_cons (d : PyData) (ds : List PyData) : PyData.depthAll (d :: ds) = max d.depth (PyData.depthAll ds) := by simp [PyData.depthAll]
@[simp] theorem dep_int (i : Int) : PyData.depth (.int i) = 0 := by simp [PyData.depth]
@[simp] theorem dep_str (i : Str) : PyData.depth (.str i) = 0 := by simp [PyData.depth]
@[simp] theorem dep_bool (i : Bool) : PyData.depth (.bool i) = 0 := by simp [PyData.depth]
@[simp] theorem dep_none : PyData.depth .none = 0 := by simp [PyData.depth]
@[simp] theorem dep_tuple (ds : List PyData) : PyData.depth (.tuple ds) = PyData.depthAll ds + 1 := by simp [PyData.depth]
@[simp] theorem dep_list (ds : List PyData) : PyData.depth (.list ds) = PyData.depthAll ds + 1 := by simp [PyData.depth]
@[simp] theorem eqv_ll (i j : List PyData) : PyData.eqv (.list i) (.list j) = PyData.eqvAll i j := by simp [PyData.eqv]
@[simp] theorem eqv_tt (i j : List PyData) : PyData.eqv (.tuple i) (.tuple j) = PyData.eqvAll i j := by simp [PyData.eqv]
@[simp] theorem eqvA_nn : PyData.eqvAll [] [] = true := by simp [PyData.eqvAll]
@[simp] theorem eqvA_cc (x y : PyData) (xs ys : List PyData) : PyData.eqvAll (x :: xs) (y :: ys) = (PyData.eqv x y && PyData.eqvAll xs ys) := by simp [PyData.eqvAll]
@[simp] theorem eqvA_nc (y : PyData) (ys : List PyData) : PyData.eqvAll [] (y :: ys) = false := by simp [PyData.eqvAll]
@[simp] theorem eqvA_cn (y : PyData) (ys : List PyData) : PyData.eqvAll (y :: ys) [] = false := by simp [PyData.eqvAll]
@[simp] theorem kit_NoneType_bool : kitB "NoneType" "bool" = some false := rfl
@[simp] theorem kit_NoneType_int : kitB "NoneType" "int" = some false := rfl
@[simp] theorem kit_NoneType_str : kitB "NoneType" "str" = some false := rfl
@[simp] theorem kit_NoneType_tuple : kitB "NoneType" "tuple" = some false := rfl
@[simp] theorem kit_NoneType_list : kitB "NoneType" "list" = some false := rfl
@[simp] theorem kit_NoneType_dict : kitB "NoneType" "dict" = some false := rfl
@[simp] theorem kit_bool_bool : kitB "bool" "bool" = some true := rfl
@[simp] theorem kit_bool_int : kitB "bool" "int" = some true := rfl
@[simp] theorem kit_bool_str : kitB "bool" "str" = some false := rfl
@[simp] theorem kit_bool_tuple : kitB "bool" "tuple" = some false := rfl
@[simp] theorem kit_bool_list : kitB "bool" "list" = some false := rfl
@[simp] theorem kit_bool_dict : kitB "bool" "dict" = some false := rfl
@[simp] theorem kit_int_bool : kitB "int" "bool" = some false := rfl
@[simp] theorem kit_int_int : kitB "int" "int" = some true := rfl
@[simp] theorem kit_int_str : kitB "int" "str" = some false := rfl
@[simp] theorem kit_int_tuple : kitB "int" "tuple" = some false := rfl
@[simp] theorem kit_int_list : kitB "int" "list" = some false := rfl
@[simp] theorem kit_int_dict : kitB "int" "dict" = some false := rfl
@[simp] theorem kit_str_bool : kitB "str" "bool" = some false := rfl
@[simp] theorem kit_str_int : kitB "str" "int" = some false := rfl
@[simp] theorem kit_str_str : kitB "str" "str" = some true := rfl
@[simp] theorem kit_str_tuple : kitB "str" "tuple" = some false := rfl
@[simp] theorem kit_str_list : kitB "str" "list" = some false := rfl
@[simp] theorem kit_str_dict : kitB "str" "dict" = some false := rfl
@[simp] theorem kit_tuple_bool : kitB "tuple" "bool" = some false := rfl
@[simp] theorem kit_tuple_int : kitB "tuple" "int" = some false := rfl
@[simp] theorem kit_tuple_str : kitB "tuple" "str" = some false := rfl
@[simp] theorem kit_tuple_tuple : kitB "tuple" "tuple" = some true := rfl
@[simp] theorem kit_tuple_list : kitB "tuple" "list" = some false := rfl
@[simp] theorem kit_tuple_dict : kitB "tuple" "dict" = some false := rfl
@[simp] theorem kit_list_bool : kitB "list" "bool" = some false := rfl
@[simp] theorem kit_list_int : kitB "list" "int" = some false := rfl
@[simp] theorem kit_list_str : kitB "list" "str" = some false := rfl
@[simp] theorem kit_list_tuple : kitB "list" "tuple" = some false := rfl
@[simp] theorem kit_list_list : kitB "list" "list" = some true := rfl
@[simp] theorem kit_list_dict : kitB "list" "dict" = some false := rfl
@[simp] theorem kit_dict_bool : kitB "dict" "bool" = some false := rfl
@[simp] theorem kit_dict_int : kitB "dict" "int" = some false := rfl
@[simp] theorem kit_dict_str : kitB "dict" "str" = some false := rfl
@[simp] theorem kit_dict_tuple : kitB "dict" "tuple" = some false := rfl
@[simp] theorem kit_dict_list : kitB "dict" "list" = some false := rfl
@[simp] theorem kit_dict_dict : kitB "dict" "dict" = some true := rfl
@[simp] theorem ofString_iff (a b : String) : Str.ofString a = Str.ofString b ↔ a = b := by
  constructor
  · intro h
    rw [Str.ofString_eq_toList, Str.ofString_eq_toList, Str.mk.injEq] at h
    have h1 : a.toList.map Char.toNat = b.toList.map Char.toNat := by simpa using h
    have h2 : a.toList = b.toList := List.map_inj_right (fun x y e => Char.toNat_inj.mp e) |>.mp h1
    exact String.toList_inj.mp h2
  · exact congrArg _
@[simp] theorem strOk_lit (a : String) : PyData.strOk (Str.ofString a) = true := by
  rw [Str.ofString_eq_toList]
  simp only [PyData.strOk]
  rw [Array.all_eq_true_iff_forall_mem]
  intro c hc
  simp at hc
  obtain ⟨x, hx, rfl⟩ := hc
  have h : x.val.toNat.isValidChar := x.valid
  have e : x.toNat = x.val.toNat := rfl
  rcases h with h | h
  · simp only [e, decide_eq_true_eq]; omega
  · simp only [e, decide_eq_true_eq]; omega
@[simp] theorem length_lit (a : String) : (Str.ofString a).length = a.length := by
  rw [Str.ofString_eq_toList]
  simp [Str.length, ← String.length_toList]
@[simp] theorem eqV_ss (i j : Str) : eqV (.str i) (.str j) = decide (i = j) := by by_cases h : i = j <;> simp [eqV, h]
@[simp] theorem eqV_ii (i j : Int) : eqV (.int i) (.int j) = decide (i = j) := by by_cases h : i = j <;> simp [eqV, h]
@[simp] theorem eqV_si (i : Str) (j : Int) : eqV (.str i) (.int j) = false := rfl
@[simp] theorem eqV_is (i : Str) (j : Int) : eqV (.int j) (.str i) = false := rfl
@[simp] theorem eqV_sn (i : Str) : eqV (.str i) .non = false := rfl
@[simp] theorem eqV_ns (i : Str) : eqV .non (.str i) = false := rfl
@[simp] theorem eqV_in (i : Int) : eqV (.int i) .non = false := rfl
@[simp] theorem eqV_ni (i : Int) : eqV .non (.int i) = false := rfl
@[simp] theorem eqV_nn : eqV .non .non = true := rfl
@[simp] theorem inV_nil (x : V) : inV x [] = false := rfl
@[simp] theorem inV_cons (x y : V) (ys : List V) : inV x (y :: ys) = (eqV y x || inV x ys) := rfl
@[simp] theorem toPys_ints : ∀ ns : List Int, toPys (ns.map W.int) = some (ns.map PyData.int)
  | [] => rfl
  | n :: ns => by simp [toPys, toPys_ints ns]
end Mi
/-! The mirror layer, part G: lists made into objects of the store, the methods of lists and tuples. -/
namespace Mi
open PySem L2
@[simp] def mListOfS : List W → Sto → Out W := fun xs st => match xs with
  | [.tup ws] => .ok (.ref st.length) (st ++ [.lst ws])
  | [x] => match asL x st with
    | some ws => .ok (.ref st.length) (st ++ [.lst ws])
    | none => .stuck
  | _ => .stuck
@[simp] def mAddS : M2 := fun x y st => match asLM x st, asLM y st with
  | some a, some b => if a.length + b.length ≤ sizeLine then .ok (.ref st.length) (st ++ [.lst (a ++ b)]) else .stuck
  | _, _ => .stuck
@[simp] def mLM (m : W → List W → Sto → Out W) (o : ME) (a : MA) : ME := fun s st => (o s st).bind fun x st1 => match asL x st1 with
  | some _ => (a s st1).bind fun xs st2 => m x xs st2
  | none => .stuck
def SMt (K : PySem.W.Frag) (Cl : Nat → Addr) (E : XK) (r : V → List V → Hp → VK → Prop) (m : W → List W → Sto → Out W) : Prop :=
  ∀ β H st x xs v vs Q, HR K Cl β H st → RV K β H x v → RVs K β H xs vs → Po K Cl E β H Q (m x xs st) → r v vs H Q
@[simp] def mApp : W → List W → Sto → Out W := fun x xs st => match x, xs with
  | .ref i, [y] => match st[i]? with
    | some (.lst ws) => if ws.length < sizeLine then .ok .non (st.set i (.lst (ws ++ [y]))) else .stuck
    | _ => .stuck
  | _, _ => .stuck
@[simp] def mIndex : W → List W → Sto → Out W := fun x xs st => match xs with
  | [y] => match asL x st with
    | some ws => if flatW y = true ∧ ws.all flatW = true then match ws.findIdx? (fun z => eqV (toV z) (toV y)) with
        | some j => .ok (.int (j : Nat)) st
        | none => .stuck
      else .stuck
    | none => .stuck
  | _ => .stuck
@[simp] def mTix (zs : List Str) (a : ME) : ME := fun s st => (a s st).bind fun y st1 => match y with
  | .str z => match zs.findIdx? (fun x => decide (x = z)) with
    | some j => .ok (.int (j : Nat)) st1
    | none => .stuck
  | _ => .stuck
/-- a tuple of texts of the module's top -/
structure GTp (K : PySem.W.Frag) (mg : Str → Option Value) (x : Str) (zs : List Str) : Prop where
  ex : ∃ (p : Addr) (o : Obj) (its : Array Value) (n : Nat), mg x = some (.ref p) ∧ K.lookup p = some o ∧ o.cls = .type "tuple" ∧ o.dict = none ∧ o.data = .seq its n ∧ its.size ≤ sizeLine ∧ Vals (zs.map V.str) its.toList
section
variable {X : Cx} {Cl : Nat → Addr} {E : XK}
theorem c_listS : CallR X (.type "list") (fun xs H Q => ∃ p ys, xs = [.ref p] ∧ (SqL X.K H p ys ∨ SqT X.K H p ys) ∧ ∀ l, H l = none → Q (.ref l) (upd H l (.lst ys))) ∧
    SCal X.K Cl E (fun xs H Q => ∃ p ys, xs = [.ref p] ∧ (SqL X.K H p ys ∨ SqT X.K H p ys) ∧ ∀ l, H l = none → Q (.ref l) (upd H l (.lst ys))) mListOfS := by
  refine ⟨call_list_of, fun β H st xs vs Q hr r h => ?_⟩
  unfold mListOfS at h
  split at h
  · obtain ⟨v, rfl, rv⟩ := r.one
    cases rv with
    | tup h1 r1 => exact ⟨_, _, rfl, .inr h1, fun l hl => Po.lstS h hr hl r1⟩
  · split at h
    · rename_i ws el
      obtain ⟨v, rfl, rv⟩ := r.one
      obtain ⟨p, vs, rfl, h1, r1⟩ := asL_ok hr rv el
      exact ⟨_, _, rfl, .inl h1, fun l hl => Po.lstS h hr hl r1⟩
    · exact h.elim
  · exact h.elim
theorem o_addS : OpR X (binaryOp .Add) rCat ∧ SOp X.K Cl E rCat mAddS := by
  refine ⟨op_cat, fun β H st x y v u Q hr rx ry h => ?_⟩
  unfold mAddS at h
  split at h
  · split at h
    · rename_i e1 e2 hz
      obtain ⟨p, vs, rfl, h1, r1⟩ := asLM_ok hr rx e1
      obtain ⟨q, us, rfl, h2, r2⟩ := asLM_ok hr ry e2
      exact ⟨p, q, vs, us, rfl, rfl, h1, h2, by rw [← r1.length, ← r2.length]; exact hz, fun l hl => Po.lstS h hr hl (r1.append r2)⟩
    · exact h.elim
  · exact h.elim
theorem m_app : MtR X "list.append" rAppend ∧ SMt X.K Cl E rAppend mApp := by
  refine ⟨mt_append, fun β H st x xs v vs Q hr rx rs h => ?_⟩
  unfold mApp at h
  split at h
  · split at h
    · rename_i ws es
      split at h
      · rename_i hz
        obtain ⟨a, rfl, hb, us, hv, hrs⟩ := rx.atRef hr es (by intro z; cases z)
        obtain ⟨u, rfl, ru⟩ := rs.one
        have em : Ext X.K β H β (upd H a (.lst (us ++ [u]))) := Ext.mut hr hb hv trivial
        refine ⟨a, us, u, rfl, rfl, hv, by rw [← hrs.length]; exact hz, h β _ .non em (hr.mut hb hv trivial ⟨_, upd_same, (hrs.append (.cons ru .nil)).ext em⟩) .non⟩
      · exact h.elim
    · exact h.elim
  · exact h.elim
theorem m_index : MtR X "list.index" (rIndex X.K) ∧ SMt X.K Cl E (rIndex X.K) mIndex := by
  refine ⟨mt_index, fun β H st x xs v vs Q hr rx rs h => ?_⟩
  unfold mIndex at h
  split at h
  · split at h
    · rename_i ws el
      split at h
      · rename_i hf
        split at h
        · rename_i j hj
          obtain ⟨u, rfl, ru⟩ := rs.one
          obtain ⟨p, us, rfl, h1, r1⟩ := asL_ok hr rx el
          obtain ⟨rfl, fu⟩ := flat_v ru hf.1
          obtain ⟨rfl, fus⟩ := flat_vs r1 hf.2
          obtain ⟨hl, he, hn⟩ := List.findIdx?_eq_some_iff_getElem.mp hj
          refine ⟨p, _, _, j, toV ws[j], rfl, rfl, h1, fu, fus, by simp [hl], he, fun m z hm hz => ?_, PoG.val h hr (.int _)⟩
          rw [List.getElem?_map, List.getElem?_eq_getElem (by omega)] at hz
          cases hz
          have := hn m hm
          simpa using this
        · exact h.elim
      · exact h.elim
    · exact h.elim
  · exact h.elim
theorem je_lm {o e : Expr} {es : List Expr} {name : Str} {id : String} {apos cpos : Pos} {r : V → List V → Hp → VK → Prop} {m : W → List W → Sto → Out W} {mo : ME} {mr : MA} (slot : Slot "list" name id) (hty : typeOf (.builtin id) = pure (.type "method_descriptor")) (hm : MtR X id r ∧ SMt X.K Cl E r m)
    (ho : JE X Cl E o mo) (ha : JA X Cl E (e :: es) mr)
    (hbase : attributeBase o name X.env (eval o X.env) = eval o X.env := by rfl)
    (hfew : ((backTo cpos (starEach (e :: es) X.env)).all (fun x => !x.1) && (backToKw cpos (keywordEach [] X.env)).all (fun x => x.1.isSome) && decide ((e :: es).length + ([] : List Keyword).length + (if ([] : List Keyword).isEmpty then 0 else 1) < 30)) = true := by rfl)
    (hline : (apos.endLine == cpos.line) = true := by rfl) (hs : starEach (e :: es) X.env = (false, eval e X.env) :: starEach es X.env := by rfl) (hplain : (backTo cpos (starEach es X.env)).any (·.1) = false := by rfl) :
    JE X Cl E (.Call (.Attribute o name apos) (e :: es) [] cpos) (mLM m mo mr) := by
  obtain ⟨_, p1, q1⟩ := ho.ex
  obtain ⟨_, p2, q2⟩ := ha.ex
  refine ⟨_, pe_bm F.plainAttrs_list slot hty hm.1 p1 p2 hbase hfew hline hs hplain, fun β H σ s st Q hr hs h => q1 β H σ s st _ hr hs (h.bind fun x st1 β1 H1 v _ e1 hr1 rx h1 => ?_)⟩
  split at h1
  · rename_i ws el
    obtain ⟨p, us, rfl, h2, r1⟩ := asL_ok hr1 rx el
    exact ⟨.inl ⟨rfl, _, h2⟩, q2 β1 H1 σ s st1 _ hr1 (hs.ext e1) (h1.bind fun xs st2 β2 H2 vs _ e2 hr2 rs h3 => hm.2 β2 H2 st2 x xs _ vs Q hr2 (rx.ext e2) rs h3)⟩
  · exact h1.elim
/-- T.index(e), T a tuple of texts of the module's top -/
theorem je_tix {x : Str} {zs : List Str} {e : Expr} {p apos cpos : Pos} {ma : ME} (g : GTp X.K X.mg x zs) (ha : JE X Cl E e ma) (hg : Gl X x := by rfl) (hd : (x == ("__debug__" : Str)) = false := by decide)
    (hbase : attributeBase (.Name x p) "index" X.env (eval (.Name x p) X.env) = eval (.Name x p) X.env := by rfl)
    (hfew : ((backTo cpos (starEach [e] X.env)).all (fun x => !x.1) && (backToKw cpos (keywordEach [] X.env)).all (fun x => x.1.isSome) && decide ([e].length + ([] : List Keyword).length + (if ([] : List Keyword).isEmpty then 0 else 1) < 30)) = true := by rfl)
    (hline : (apos.endLine == cpos.line) = true := by rfl) (hs : starEach [e] X.env = (false, eval e X.env) :: starEach [] X.env := by rfl) (hplain : (backTo cpos (starEach [] X.env)).any (·.1) = false := by rfl) :
    JE X Cl E (.Call (.Attribute (.Name x p) "index" apos) [e] [] cpos) (mTix zs ma) := by
  obtain ⟨_, p1, q1⟩ := ha.ex
  obtain ⟨a, o, its, n, hm, hk, hc, hdd, hdt, hz, hv⟩ := g.ex
  refine ⟨_, pe_bm F.plainAttrs_tuple F.slot_tuple_index F.type_tuple_index mt_tup_index (pe_glob (v := .ref a) hg hm rfl hd) (pa_cons p1 pa_nil hs) hbase hfew hline hs hplain, fun β H σ s st Q hr hs h => ?_⟩
  refine ⟨.inr (.inl ⟨rfl, o, hk, hc, hdd⟩), q1 β H σ s st _ hr hs (h.bind fun y st1 β1 H1 v _ e1 hr1 ry h1 => ?_)⟩
  cases y with
  | str z =>
    simp only at h1
    split at h1
    · rename_i j hj
      cases ry
      obtain ⟨hl, he, hn⟩ := List.findIdx?_eq_some_iff_getElem.mp hj
      refine ⟨a, zs, z, j, rfl, rfl, .inr ⟨o, its, n, hk, hc, hdt, hz, hv⟩, ?_, fun m hm2 hz2 => ?_, PoG.val h1 hr1 (.int _)⟩
      · rw [List.getElem?_eq_getElem hl]
        simpa using he
      · obtain ⟨hl2, e2⟩ := List.getElem?_eq_some_iff.mp hz2
        have := hn m hm2
        rw [e2] at this
        simp at this
    · exact h1.elim
  | _ => exact h1.elim
/-- o.f as a target -/
def gFld (K : PySem.W.Frag) (to : TE) (f : Str) : TG := fun y σ H Q => to σ H fun x H2 => ∃ a C dx fs, x = .ref a ∧ H2 a = some (.ins C dx fs) ∧ Cls K C ∧ NoAttr K C f ∧ fs.length < 1000 ∧ Q σ (upd H2 a (.ins C dx (putF f y fs)))
theorem pg_fld {o : Expr} {to : TE} {f : Str} {pos : Pos} (ho : PE X o to)
    : PG X (.Attribute o f pos) (gFld X.K to f) := by
  refine ⟨fun pins s σ H v u Q I r h => ?_⟩
  rw [assign_Attribute]
  refine wpAny_bind (wpAny_holding (thn (ho.run pins s σ H _ I h) fun ov s1 ⟨x, H1, I1, r1, a, C, dx, fs, ex, ea, c, n, l, q1⟩ => ?_))
  subst ex
  obtain rfl : ov = Value.ref a := r1
  refine wpAny_bind (wpAny_standAt (wpAny_bind (wpAny_holding ?_)))
  exact setattr_ok I1 ea c n l r fun s3 I3 => wpAny_release ⟨σ, _, I3, q1⟩
theorem jg_fld {o : Expr} {ma : ME} {c : Nat} {f : Str} {pos : Pos} (hc : Cls X.K (Cl c)) (hn : NoAttr X.K (Cl c) f) (ho : JE X Cl E o ma) : JG X Cl (.Attribute o f pos) (mGFld c f ma) := by
  obtain ⟨_, p1, q1⟩ := ho.ex
  refine ⟨_, pg_fld p1, fun β H σ s st w v Q hr hs rw h => q1 β H σ s st _ hr hs ?_⟩
  unfold mGFld at h
  cases e1 : ma s st with
  | exc c fs x => rw [e1] at h; exact h.elim
  | stuck => rw [e1] at h; exact h.elim
  | ok x st1 =>
    rw [e1] at h
    intro β1 H1 v1 x1 hr1 rx
    simp only at h
    split at h
    · rename_i r
      split at h
      · rename_i d fs es
        split at h
        · rename_i hd
          obtain ⟨rfl, hl⟩ := hd
          obtain ⟨a, rfl, hb, dx, gs, hv, hrs⟩ := rx.atRef hr1 es (by intro z; cases z)
          have em : Ext X.K β1 H1 β1 (upd H1 a (.ins (Cl d) dx (putF f v gs))) := Ext.mut hr1 hb hv trivial
          exact ⟨a, _, dx, gs, rfl, hv, hc, hn, by rw [← hrs.length]; exact hl, h β1 _ σ (x1.trans em) (hr1.mut hb hv trivial ⟨dx, _, upd_same, (putW_ok (rw.ext x1) hrs).ext em⟩) ((hs.ext x1).ext em)⟩
        · exact h.elim
      · exact h.elim
    · exact h.elim
/-- range(i, j, c) -/
@[simp] def mIRngC (a : MA) : MI := fun s st => (a s st).bind fun xs st1 => match xs with
  | [.int i, .int j, .int c] => if c ≠ 0 ∧ c.natAbs < 1073741824 ∧ Builtin.Range.small i j c = true ∧ 0 ≤ Builtin.Range.rangeSize i j c then .ok (.vals ((List.range (Builtin.Range.rangeSize i j c).toNat).map fun k => .int (i + (k : Nat) * c))) st1 else .stuck
  | _ => .stuck
theorem vals_three {K : PySem.W.Frag} {β : Bt} {H : Hp} {a b c : W} {vs : List V} (r : RVs K β H [a, b, c] vs) : ∃ x y z, vs = [x, y, z] ∧ RV K β H a x ∧ RV K β H b y ∧ RV K β H c z := by
  cases r with
  | cons r1 r => cases r with
    | cons r2 r => cases r with
      | cons r3 r => cases r; exact ⟨_, _, _, rfl, r1, r2, r3⟩
theorem ji_rngC {tg a b c : Expr} {p pos : Pos} {mr : MA} (hm : X.mg "range" = none) (ha : JA X Cl E [a, b, c] mr) (hg : Gl X "range" := by rfl)
    (hs : starEach [a, b, c] X.env = (false, eval a X.env) :: starEach [b, c] X.env := by rfl) (hpl : (backTo pos (starEach [b, c] X.env)).any (·.1) = false := by rfl) : JI X Cl E tg (.Call (.Name "range" p) [a, b, c] [] pos) (mIRngC mr) := by
  obtain ⟨t, pr, q⟩ := ha.ex
  refine ⟨_, pi_range3 hg hm pr hs hpl, fun β H σ s st R hr hs h => q β H σ s st _ hr hs (Out.bindI h fun x st1 β1 H1 v _ e1 hr1 rx h1 => ?_)⟩
  split at h1
  · split at h1
    · rename_i hz
      obtain ⟨u, w, y, rfl, ru, rw', ry⟩ := vals_three rx
      cases ru; cases rw'; cases ry
      exact ⟨_, _, _, _, rfl, ⟨hz.1, hz.2.1, hz.2.2.1, by have := hz.2.2.2; omega⟩, h1 β1 H1 _ (Ext.refl _ _ _) hr1 walkS_rngC⟩
    · exact h1.elim
  · exact h1.elim
/-- a statement that is never come to -/
@[simp] def mDead : MS := fun _ _ => .stuck
theorem js_dead {x : Stmt} : JS X Cl E x mDead := ⟨fun _ _ _ => False, ⟨fun _ _ _ _ _ _ h => h.elim⟩, fun _ _ _ _ _ _ _ _ h => h⟩
end
end Mi
/-! The mirror layer, part H: all, any, sum. -/
namespace Mi
open PySem L2
@[simp] def boolsW : List W → Option (List Bool)
  | [] => some []
  | .bl b :: ws => (boolsW ws).map (b :: ·)
  | _ => none
@[simp] def intsW : List W → Option (List Int)
  | [] => some []
  | .int b :: ws => (intsW ws).map (b :: ·)
  | _ => none
@[simp] def mAll : List W → Sto → Out W := fun xs st => match xs with
  | [x] => match asL x st with
    | some ws => match boolsW ws with
      | some bs => .ok (.bl (bs.all id)) st
      | none => .stuck
    | none => .stuck
  | _ => .stuck
@[simp] def mAny : List W → Sto → Out W := fun xs st => match xs with
  | [x] => match asL x st with
    | some ws => match boolsW ws with
      | some bs => .ok (.bl (bs.any id)) st
      | none => .stuck
    | none => .stuck
  | _ => .stuck
@[simp] def mSum : List W → Sto → Out W := fun xs st => match xs with
  | [x] => match asL x st with
    | some ws => match intsW ws with
      | some bs => .ok (.int bs.sum) st
      | none => .stuck
    | none => .stuck
  | _ => .stuck
section
variable {K : PySem.W.Frag} {β : Bt} {H : Hp}
theorem boolsW_ok : ∀ {ws : List W} {vs : List V} {bs : List Bool}, RVs K β H ws vs → boolsW ws = some bs → vs = bs.map V.bl
  | _, _, _, .nil, h => by cases h; rfl
  | _, _, _, .cons (w := w) (ws := ws) r rr, h => by
    cases w with
    | bl b =>
      simp only [boolsW, Option.map_eq_some_iff] at h
      obtain ⟨cs, h1, rfl⟩ := h
      cases r
      rw [boolsW_ok rr h1]; rfl
    | _ => cases h
theorem intsW_ok : ∀ {ws : List W} {vs : List V} {bs : List Int}, RVs K β H ws vs → intsW ws = some bs → vs = bs.map V.int
  | _, _, _, .nil, h => by cases h; rfl
  | _, _, _, .cons (w := w) (ws := ws) r rr, h => by
    cases w with
    | int b =>
      simp only [intsW, Option.map_eq_some_iff] at h
      obtain ⟨cs, h1, rfl⟩ := h
      cases r
      rw [intsW_ok rr h1]; rfl
    | _ => cases h
end
section
variable {X : Cx} {Cl : Nat → Addr} {E : XK}
theorem c_all (hc : X.calm = true) : CallR X (.builtin "all") (rAll X.K) ∧ SCal X.K Cl E (rAll X.K) mAll := by
  refine ⟨cr_all hc, fun β H st xs vs Q hr r h => ?_⟩
  unfold mAll at h
  split at h
  · split at h
    · rename_i ws el
      split at h
      · rename_i bs hb
        obtain ⟨v, rfl, rv⟩ := r.one
        obtain ⟨p, us, rfl, h1, r1⟩ := asL_ok hr rv el
        have e := boolsW_ok r1 hb
        subst e
        exact ⟨p, bs, rfl, h1, PoG.val h hr (.bl _)⟩
      · exact h.elim
    · exact h.elim
  · exact h.elim
theorem c_any (hc : X.calm = true) : CallR X (.builtin "any") (rAny X.K) ∧ SCal X.K Cl E (rAny X.K) mAny := by
  refine ⟨cr_any hc, fun β H st xs vs Q hr r h => ?_⟩
  unfold mAny at h
  split at h
  · split at h
    · rename_i ws el
      split at h
      · rename_i bs hb
        obtain ⟨v, rfl, rv⟩ := r.one
        obtain ⟨p, us, rfl, h1, r1⟩ := asL_ok hr rv el
        have e := boolsW_ok r1 hb
        subst e
        exact ⟨p, bs, rfl, h1, PoG.val h hr (.bl _)⟩
      · exact h.elim
    · exact h.elim
  · exact h.elim
theorem c_sum (hc : X.calm = true) : CallR X (.builtin "sum") (rSum X.K) ∧ SCal X.K Cl E (rSum X.K) mSum := by
  refine ⟨cr_sum hc, fun β H st xs vs Q hr r h => ?_⟩
  unfold mSum at h
  split at h
  · split at h
    · rename_i ws el
      split at h
      · rename_i bs hb
        obtain ⟨v, rfl, rv⟩ := r.one
        obtain ⟨p, us, rfl, h1, r1⟩ := asL_ok hr rv el
        have e := intsW_ok r1 hb
        subst e
        exact ⟨p, bs, rfl, h1, PoG.val h hr (.int _)⟩
      · exact h.elim
    · exact h.elim
  · exact h.elim
end
section
variable {X : Cx} {Cl : Nat → Addr} {E : XK}
/-- statements that are never come to -/
theorem jss_dead {x : List Stmt} : JSs X Cl E x mDead := ⟨fun _ _ _ => False, ⟨fun _ _ _ _ _ _ h => h.elim⟩, fun _ _ _ _ _ _ _ _ h => h⟩
end
end Mi
/-! The mirror layer, part I: enumerate over a list or a tuple. -/
namespace Mi
open PySem L2
theorem meets_enum1 {v : Value} {o : Obj} {H : Heap → Prop} (B : Begins v o H) :
    Meets (Builtin.«enumerate.__new__» ⟨[.type "enumerate", v], []⟩) (fun _ R s => H s.heap ∧
      R (.ok (.ret (.ref (s.heap.push o).objs.size))) { s with heap := (s.heap.push o).push { cls := .type "enumerate", data := .fields #[.none, .bool false, .ref s.heap.objs.size, rawInt 0, .none, .none] } }) :=
  .of_wp fun prog w A R s h => by
    obtain ⟨hp, g, d, tk, os⟩ := s; obtain ⟨h1, h⟩ := h
    have hsub := sub_enumerate
    have q1 : ∀ {A' : Around} {E : Value → Shared → Prop} {Q : Value → Shared → Prop}, Q (.ref hp.objs.size) ⟨hp.push o, g, d, tk, os⟩ → wpAny (model prog w) A' (pyIter v) Q E ⟨hp, g, d, tk, os⟩ :=
      fun q => B.iter prog w _ _ ⟨hp, g, d, tk, os⟩ _ h1 q
    wp_walk using q1
    refine wpAny_stack_any fun st => wpAny_pure ?_
    split
    · rename_i c _ _ _ _ _
      cases (c == Value.type "enumerate")
      · wp_walk using q1
        exact ⟨_, rfl, h⟩
      · wp_walk using q1
        exact ⟨_, rfl, h⟩
    · wp_walk using q1
      exact ⟨_, rfl, h⟩
section
variable {prog : Program} {w : World} {A : Around} {E : Value → Shared → Prop} {s : Shared}
theorem enum_begins1 {v : Value} {o : Obj} {H : Heap → Prop} {Q : Value → Shared → Prop} (B : Begins v o H) (h1 : H s.heap)
    (h : ∀ h', IsEnum h' (s.heap.objs.size + 1) s.heap.objs.size 0 .none → h'.get? s.heap.objs.size = some o → h'.objs.size = s.heap.objs.size + 2 →
      (∀ b o, s.heap.get? b = some o → h'.get? b = some o) → Q (.ref (s.heap.objs.size + 1)) { s with heap := h' }) :
    wpAny (model prog w) A (call (.type "enumerate") [v]) Q E s := by
  refine callType_new F.called_enumerate (by decide) (F.typeCall_enumerate_1 _) (F.newCall_enumerate_1 _) (fun obj => F.args_object_init_2 obj _) F.entry_enumerate_new
    (meets_enum1 B) ⟨h1, ?_⟩
  have hz : (s.heap.push o).objs.size = s.heap.objs.size + 1 := Heap.size_push ..
  show _ ∧ _
  rw [hz]
  have he : IsEnum ((s.heap.push o).push
      { cls := .type "enumerate", data := .fields #[.none, .bool false, .ref s.heap.objs.size, rawInt 0, .none, .none] }) (s.heap.objs.size + 1) s.heap.objs.size 0 .none := by
    have := Heap.get?_push_size (s.heap.push o)
      (o := { cls := .type "enumerate", data := .fields #[.none, .bool false, .ref s.heap.objs.size, rawInt 0, .none, .none] }) rfl
    rw [hz] at this; exact this
  exact ⟨⟨_, he, rfl⟩, h _ he (Heap.get?_push_of_some _ (Heap.get?_push_size _ B.free)) (by rw [Heap.size_push, hz]) fun b o x => Heap.get?_push_of_some _ (Heap.get?_push_of_some _ x)⟩
end
/-- the tuple at a, the items in new pairs -/
def IteT (K : PySem.W.Frag) (a : Addr) : It :=
  ⟨fun i H => ∃ (xs : List V) (x : V), SqT K H a xs ∧ xs[i]? = some x, fun i H v H' => ∃ T x, v = .ref T ∧ H T = none ∧ H' = upd H T (.tup [.int (i : Nat), x]) ∧ ∀ xs, SqT K H a xs → xs[i]? = some x, fun i H => ∃ xs : List V, SqT K H a xs ∧ xs.length ≤ i⟩
theorem turn_enumT {P : Program} {w : World} {K : PySem.W.Frag} {elts : List Expr} {kk : Nat} {tpos : Pos} (a e it : Addr) (hat : a ≠ it) (hae : a ≠ e) :
    Turn P w K (.Tuple elts kk tpos) (IteT K a) [e, it] e (fun i h => (∃ old, IsEnum h e it ((i : Nat) : Int) old) ∧ h.IsTupleIter it a i ∧ e ≠ it) where
  mem := by simp
  obj := fun i h st b hb => by
    obtain ⟨⟨old, he⟩, ⟨o, ho, hc, hd⟩, _⟩ := st
    have e' : b = e ∨ b = it := by simpa using hb
    rcases e' with z | z
    · rw [z]; exact ⟨_, he, fun v q => nomatch q⟩
    · rw [z]; exact ⟨o, ho, fun v q => by rw [hd] at q; cases q⟩
  keep := fun i h h' st k => let ⟨⟨old, he⟩, hi, hne⟩ := st; ⟨⟨old, k e (by simp) _ he⟩, hi.at fun o q => k it (by simp) o q, hne⟩
  item := by
    intro X hP hw hK hc i pins s σ H E I hf st hg
    subst hP hw hK
    obtain ⟨⟨old, he⟩, hit, hne⟩ := st
    obtain ⟨xs, x, hq, hx⟩ := hg
    obtain ⟨its, rv, p, hz⟩ := I.tuple hq
    obtain ⟨u, hu, ru⟩ := rv.get hx
    have hel : e < s.heap.objs.size := Heap.lt_size he
    have hil : it < s.heap.objs.size := by obtain ⟨_, q, _⟩ := hit; exact Heap.lt_size q
    have hi' : i < its.toArray.size := by
      have := (List.getElem?_eq_some_iff.mp hu).1
      simpa using this
    refine wpAny_pyNext_enum_itemD (Draws.tuple (show X.A.in1.handled = none from I.ok.hd hc) it a hat its.toArray) he ⟨hit, show s.heap.IsTuple a its.toArray from p⟩ hi' hne (by simp [hne, Ne.symm hae]) fun y h' tk hy ho hit' hT hsz hk => ?_
    have hyu : y = u := by
      have z : its[i]? = some y := by simpa using hy
      rw [hu] at z
      exact (Option.some.inj z).symm
    subst hyu
    refine ⟨_, rfl, wpAny_letOwnedTupleGo_enum (s := { s with heap := h', toks := tk + 1 }) ho fun h'' he' sb => ?_⟩
    have hT2 : h''.get? s.heap.objs.size = some { cls := .type "tuple", data := .seq #[.int i tk, y] } := (sb.2 _ (Nat.ne_of_gt hel)).trans hT
    have new : ObjOk X.prog X.w (upd H s.heap.objs.size (.tup [.int (i : Nat), x])) h'' s.heap.objs.size (.tup [.int (i : Nat), x]) :=
      ⟨by show 2 ≤ sizeLine; decide, [.int i tk, y], .cons ⟨_, rfl⟩ (.cons ru .nil), ⟨_, hT2, rfl, _, rfl⟩⟩
    have I1 : Inv X pins σ (upd H s.heap.objs.size (.tup [.int (i : Nat), x])) { s with heap := h'', toks := tk + 1 } :=
      I.turnedNew (ch := [e, it]) (fun b ob hb q => (sb.2 b (fun z => hb (by simp [z]))).trans (hk b ob (fun z => hb (by simp [z])) (fun z => hb (by simp [z])) q)) hf (Nat.le_refl _) new
    refine ⟨.ref s.heap.objs.size, _, I1, rfl, ⟨_, x, rfl, I.hok.fresh (Nat.le_refl _), rfl, fun ys hy => by rw [I.tuple_inj hy hq]; exact hx⟩, ⟨⟨y, ?_⟩, hit'.1.at fun o q => (sb.2 it (Ne.symm hne)).trans q, hne⟩, fun b hb => ?_⟩
    · have e1 : ((i + 1 : Nat) : Int) = (i : Int) + 1 := by omega
      rw [e1]; exact he'
    · have hb' : b < s.heap.objs.size := by
        have e' : b = e ∨ b = it := by simpa using hb
        rcases e' with z | z
        · rw [z]; exact hel
        · rw [z]; exact hil
      rw [upd_ne (Nat.ne_of_lt hb')]
      exact (hf b hb).1
  done := by
    intro X hP hw hK hc i pins s σ H E I hf st hg
    subst hP hw hK
    obtain ⟨⟨old, he⟩, hit, hne⟩ := st
    obtain ⟨xs, hq, hx⟩ := hg
    obtain ⟨its, rv, p, hz⟩ := I.tuple hq
    obtain ⟨f0, f1, f2, f3, f4, f5⟩ := hf it (by simp)
    have hl := rv.length
    have hT : s.TypeIs (.ref e) "enumerate" := ⟨_, he, rfl⟩
    unfold pyNext
    refine wpAny_bind (wpAny_attempt (wpAny_callSpecial?_slot (name := Str.ofString "__next__") hT F.slot_enumerate_next
      (wpAny_call_entry F.slot_enumerate_next hT F.entry_enumerate_next ?_ (F.args_enumerate_next_1 _))))
    show wpAny _ _ (field (.ref e) 2 >>= _) _ _ _
    refine wpAny_bind (wpAny_field he rfl (x := .ref it) rfl ?_)
    refine wpAny_bind (wpAny_nextOf_tuple_end (show X.A.in1.handled = none from I.ok.hd hc) hit (show s.heap.IsTuple a its.toArray from p) (by simp; omega) fun h' x he' hx' => ?_)
    obtain ⟨o, ho, hc⟩ := hx'
    refine wpAny_bind (wpAny_isInstance (T := "StopIteration") (b := true) ⟨o, ho, hc⟩ isSubtype_stop ?_)
    exact wpAny_pure ⟨rfl, I.turned (t' := s.toks) (fun b o hb q => he' b o hb q) f0 f1 f3 f4 f5⟩
  self := fun A i s Q E st h => let ⟨⟨_, he⟩, _⟩ := st; wpAny_pyIter_enum he h
theorem walk_enumT {K : PySem.W.Frag} {a : Addr} {xs : List V} : Walk (IteT K a) xs.length (fun H => SqT K H a xs) (YPair (fun i => some (.int (i : Nat))) (fun i => xs[i]?)) := by
  refine ⟨fun i _ hi q => ⟨xs, xs[i], q, by simp [hi]⟩, fun _ q => ⟨xs, q, Nat.le_refl _⟩, fun i H v H' _ q y => ?_⟩
  obtain ⟨T, x, h1, h2, h3, h4⟩ := y
  exact ⟨T, .int (i : Nat), x, h1, h2, h3, rfl, h4 xs q⟩
def iEnumB (K : PySem.W.Frag) (ta : TA) : TI := fun σ H R => ta σ H fun vs H1 => ∃ a, vs = [.ref a] ∧ ((∃ xs, SqL K H1 a xs ∧ R (Ite K a) H1) ∨ ∃ xs, SqT K H1 a xs ∧ R (IteT K a) H1)
open PyProof.Rows in
theorem pi_enumB {X : Cx} {e : Expr} {ta : TA} {p pos tpos : Pos} {elts : List Expr} {kk : Nat} (hg : Gl X "enumerate") (hm : X.mg "enumerate" = none) (ha : PA X [e] ta) (hs : starEach [e] X.env = [(false, eval e X.env)] := by rfl) :
    PI X (.Tuple elts kk tpos) (.Call (.Name "enumerate" p) [e] [] pos) (iEnumB X.K ta) := by
  refine ⟨fun pins s σ H R I h => ?_⟩
  refine Call_ (ld_blt I hg hm boot_enumerate (PyProof.Rows.callWith_type1 (thn (ha.run pos pins s σ H _ I h) fun us s1 ⟨vs, H1, I1, r1, q1⟩ => ?_) hs rfl))
  obtain ⟨a, ex, q1⟩ := q1
  subst ex
  have fp : ∀ {h' : Heap} (I2 : Inv X pins σ H1 { s1 with heap := h' }), ∀ b ∈ [s1.heap.objs.size + 1, s1.heap.objs.size], s1.heap.objs.size ≤ b := fun _ b hb => by
    have e' : b = s1.heap.objs.size + 1 ∨ b = s1.heap.objs.size := by simpa using hb
    rcases e' with z | z
    · rw [z]; exact Nat.le_add_right _ _
    · rw [z]; exact Nat.le_refl _
  cases r1 with
  | cons r rr =>
    cases rr
    cases r
    rcases q1 with ⟨xs, hq, q⟩ | ⟨xs, hq, q⟩
    · obtain ⟨its, rv, p', hz⟩ := I1.list hq
      refine call_enumerate_list p'.isList fun h' he hit hsz hk => wpAny_pyIter_enum he ?_
      have I2 : Inv X pins σ H1 { s1 with heap := h' } := I1.kept (t' := s1.toks) hk
      refine ⟨s1.heap.objs.size + 1, [s1.heap.objs.size + 1, s1.heap.objs.size], _, _, H1, rfl, I2, turn_enum a (s1.heap.objs.size + 1) s1.heap.objs.size, ⟨⟨.none, he⟩, hit, Nat.succ_ne_self _⟩, fun b hb => ?_, q⟩
      have hle := fp I2 b hb
      exact I1.fpOk hle (I1.hok.fresh hle)
    · obtain ⟨its, rv, p', hz⟩ := I1.tuple hq
      have hal : a < s1.heap.objs.size := by obtain ⟨_, z, _⟩ := p'; exact Heap.lt_size z
      refine enum_begins1 (begins_tuple a its.toArray) p' fun h' he hit hsz hk => wpAny_pyIter_enum he ?_
      have I2 : Inv X pins σ H1 { s1 with heap := h' } := I1.kept (t' := s1.toks) hk
      refine ⟨s1.heap.objs.size + 1, [s1.heap.objs.size + 1, s1.heap.objs.size], _, _, H1, rfl, I2, turn_enumT a (s1.heap.objs.size + 1) s1.heap.objs.size (Nat.ne_of_lt hal) (Nat.ne_of_lt (Nat.lt_succ_of_lt hal)), ⟨⟨.none, he⟩, ⟨_, hit, rfl, rfl⟩, Nat.succ_ne_self _⟩, fun b hb => ?_, q⟩
      have hle := fp I2 b hb
      exact I1.fpOk hle (I1.hok.fresh hle)
@[simp] def mIEnum2 (a : MA) : MI := fun s st => (a s st).bind fun xs st1 => match xs with
  | [.lst ws] => .ok (.vals ((List.range ws.length).map fun i => .tup [.int (i : Nat), ws.getD i .non])) st1
  | [.xst ws] => .ok (.vals ((List.range ws.length).map fun i => .tup [.int (i : Nat), ws.getD i .non])) st1
  | [.tup ws] => .ok (.vals ((List.range ws.length).map fun i => .tup [.int (i : Nat), ws.getD i .non])) st1
  | _ => .stuck
section
variable {X : Cx} {Cl : Nat → Addr} {E : XK}
theorem walkS_en {K : PySem.W.Frag} {β : Bt} {H : Hp} {J : It} {G : Hp → Prop} {ws : List W} {vs : List V} (wk : Walk J vs.length G (YPair (fun i => some (.int (i : Nat))) (fun i => vs[i]?))) (hG : ∀ β' H', Ext K β H β' H' → G H') (r : RVs K β H ws vs) :
    WalkS K Cl β H J (.vals ((List.range ws.length).map fun i => .tup [.int (i : Nat), ws.getD i .non])) := by
  refine ⟨G, _, (show Walk J ((List.range ws.length).map fun i => W.tup [.int (i : Nat), ws.getD i .non]).length _ _ from by rw [List.length_map, List.length_range, r.length]; exact wk), fun β' H' st e hr _ => hG β' H' e, fun i H1 x H2 β1 st w e hr hw y => ?_⟩
  obtain ⟨T, a, b, rfl, hT, rfl, ha, hb⟩ := y
  have hw' : ((List.range ws.length).map fun i => W.tup [.int (i : Nat), ws.getD i .non])[i]? = some w := hw
  rw [List.getElem?_map] at hw'
  by_cases hi : i < ws.length
  · rw [List.getElem?_range hi] at hw'
    cases hw'
    cases ha
    obtain ⟨v, hv, rv⟩ := r.get (show ws[i]? = some ws[i] from List.getElem?_eq_getElem hi)
    have hb' : vs[i]? = some b := hb
    have hbv : b = v := by rw [hb'] at hv; exact Option.some.inj hv
    subst hbv
    have eg : ws.getD i .non = ws[i] := by simp [List.getD, hi]
    refine ⟨Ext.new hT, hr.new hT, ?_⟩
    show RV K β1 _ (W.tup [W.int (i : Nat), ws.getD i W.non]) (V.ref T)
    rw [eg]
    exact RV.newT hT (.cons (.int _) (.cons (rv.ext e) .nil))
  · rw [List.getElem?_eq_none (by simp; omega)] at hw'
    cases hw'
theorem ji_enum {e : Expr} {mr : MA} {p pos tpos : Pos} {elts : List Expr} {kk : Nat} (hm : X.mg "enumerate" = none) (ha : JA X Cl E [e] mr) (hg : Gl X "enumerate" := by rfl) (hs : starEach [e] X.env = [(false, eval e X.env)] := by rfl) :
    JI X Cl E (.Tuple elts kk tpos) (.Call (.Name "enumerate" p) [e] [] pos) (mIEnum2 mr) := by
  obtain ⟨t, pr, q⟩ := ha.ex
  refine ⟨_, pi_enumB hg hm pr hs, fun β H σ s st R hr hs h => q β H σ s st _ hr hs (Out.bindI h fun x st1 β1 H1 v _ e1 hr1 rx h1 => ?_)⟩
  split at h1
  · obtain ⟨u, rfl, ru⟩ := rx.one
    cases ru with
    | lst hv hn r1 => exact ⟨_, rfl, .inl ⟨_, SqL.of hv, h1 β1 H1 _ (Ext.refl _ _ _) hr1 (walkS_en walk_enum (fun β' H' e => SqL.of (e.lst _ _ hv hn).1) r1)⟩⟩
  · obtain ⟨u, rfl, ru⟩ := rx.one
    cases ru with
    | xst hv r1 => exact ⟨_, rfl, .inl ⟨_, KL.sq hv, h1 β1 H1 _ (Ext.refl _ _ _) hr1 (walkS_en walk_enum (fun β' H' e => KL.sq (hv.imp (fun x => x) fun ⟨o, x⟩ => ⟨o, e.frz _ _ _ x⟩)) r1)⟩⟩
  · obtain ⟨u, rfl, ru⟩ := rx.one
    cases ru with
    | tup hv r1 => exact ⟨_, rfl, .inr ⟨_, hv, h1 β1 H1 _ (Ext.refl _ _ _) hr1 (walkS_en walk_enumT (fun β' H' e => e.tup _ _ hv) r1)⟩⟩
  · exact h1.elim
end
end Mi
/-! The mirror layer, part J: dicts with tuple keys. -/
namespace Mi
open PySem PySem.W PySem.Calls PyProof.Rows PyProof.V PySem.Spec L2

section
variable {X : Cx}
def rSetdefT : V → List V → Hp → VK → Prop := fun x xs H Q => ∃ (a : Addr) (kvs : List (List L2.Key × V)) (k : List L2.Key) (b : Addr) (d : V), x = .ref a ∧ xs = [.ref b, d] ∧ H a = some (.dT kvs) ∧ H b = some (.tup (k.map kV)) ∧ kvs.length < sizeLine ∧
  (∀ v, valV kvs k = some v → Q v H) ∧ (valV kvs k = none → Q d (upd H a (.dT (putK kvs k d))))
theorem mt_setdefT (hu : X.A.units + 1 < cLine) : MtR X "dict.setdefault" rSetdefT := by
  intro pins s σ H x xs v us Q I rx rxs h
  obtain ⟨a, kvs, k, b, d, rfl, rfl, ha, hb, hlt, q1, q2⟩ := h
  cases rx
  obtain ⟨u1, u2, rfl, r1, r2⟩ := vals2 rxs
  cases r1
  obtain ⟨z, hd, xs', rel, dd⟩ := dt_of I.hok ha
  have hz : xs'.length ≤ sizeLine := by rw [← Paired.length rel]; exact z
  refine call_meetsIn PySem.F.slot_dict_setdefault dd.typeIs PySem.F.entry_dict_setdefault (PySem.F.args_dict_setdefault_3 _ _ _) (meetsH_dict_setdefault (tupleKind (mixKind X.prog X.w)) a b hd u2)
    ⟨tupleKind_room_in1 hu, k, xs', key_of I.hok hb, dd, hz, fun p hp => ?_, fun hn h' dd' hs => ?_⟩
  · have r := rel.val k
    rw [hp] at r
    obtain ⟨v0, ev, rv⟩ : ∃ v0, valV kvs k = some v0 ∧ RelV v0 p.2 := by
      cases ev : valV kvs k with
      | none =>
        rw [ev] at r
        exact (show False from r).elim
      | some v0 =>
        rw [ev] at r
        exact ⟨v0, rfl, r⟩
    show EP X pins σ Q p.2 _
    exact ⟨v0, H, I.tok _, rv, q1 v0 ev⟩
  · have r := rel.val k
    rw [hn] at r
    have e : valV kvs k = none := by
      cases ev : valV kvs k with
      | none => rfl
      | some v0 =>
        rw [ev] at r
        exact (show False from r).elim
    obtain ⟨o, es, ep, hq, h2, h3, h4, _, h5⟩ := dd'
    have hl : (putK kvs k d).length ≤ sizeLine := by have := length_putK kvs k d; omega
    have I2 : Inv X pins σ (upd H a (.dT (putK kvs k d))) { s with heap := h', toks := s.toks + (tupleKind (mixKind X.prog X.w)).draws k } :=
      d_write I (by rw [ha]; exact True.intro) hs ⟨o, hq⟩ ⟨hl, hd, _, (rel.put k hb r2).keeps (fun c ys ec => (by rw [upd_ne (ne_of ec ha (fun z => nomatch z))]; exact ec)), o, es, ep, hq, h2, h3, h4, h5⟩
    show EP X pins σ Q u2 _
    exact ⟨d, _, I2, r2, q2 e⟩
end

@[simp] def keysT : List W → Option (List Key)
  | [] => some []
  | w :: r => match toKey w, keysT r with
    | some k, some ks => some (k :: ks)
    | _, _ => none
theorem keysT_ok {K : PySem.W.Frag} {β : Bt} {H : Hp} : ∀ {ws : List W} {vs : List V} {ks : List Key}, RVs K β H ws vs → keysT ws = some ks → vs = ks.map kV
  | _, _, ks, .nil, h => by simp only [keysT] at h; cases h; rfl
  | _, _, ks, .cons (w := w) (ws := ws) r1 r, h => by
    unfold keysT at h
    split at h
    · rename_i k ks' e1 e2
      cases h
      rw [toKey_ok r1 e1, keysT_ok r e2]
      rfl
    · cases h
/-- {} , a dict with tuple keys -/
@[simp] def mDNewT : ME := fun _ st => .ok (.ref st.length) (st ++ [.dT []])
/-- d.setdefault((..), []) -/
@[simp] def mSetDef (o : ME) (a : MA) : ME := fun s st => (o s st).bind fun x st1 => match x with
  | .ref r => match st1[r]? with
    | some (.dT _) => (a s st1).bind fun ks st2 => match st2[r]?, keysT ks with
      | some (.dT kvs), some k => if kvs.length < sizeLine ∧ ks.length ≤ sizeLine then match valW kvs k with
          | some w => .ok w st2
          | none => .ok (.ref st2.length) ((st2 ++ [Ob.lst []]).set r (.dT (putKW kvs k (.ref st2.length))))
        else .stuck
      | _, _ => .stuck
    | _ => .stuck
  | _ => .stuck
section
variable {X : Cx} {Cl : Nat → Addr} {E : XK} {pos p : Pos}
theorem je_dnewT : JE X Cl E (.Dict [] [] pos) mDNewT :=
  ⟨_, pe_dnewT, fun β H σ s st Q hr hs h p hp => h _ _ _ (Ext.push hp) (hr.push hp ⟨[], upd_same, .nil⟩) (.ref (by rw [← hr.len]; exact push_last))⟩
theorem je_setdef {o : Expr} {es : List Expr} {k : Nat} {tpos lpos apos cpos : Pos} {mo : ME} {mr : MA} (hu : X.A.units + 1 < cLine)
    (ho : JE X Cl E o mo) (ha : JA X Cl E es mr)
    (hbase : attributeBase o "setdefault" X.env (eval o X.env) = eval o X.env := by rfl)
    (hfew : ((backTo cpos (starEach [.Tuple es k tpos, .List [] lpos] X.env)).all (fun x => !x.1) && (backToKw cpos (keywordEach [] X.env)).all (fun x => x.1.isSome) && decide ([Expr.Tuple es k tpos, .List [] lpos].length + ([] : List Keyword).length + (if ([] : List Keyword).isEmpty then 0 else 1) < 30)) = true := by rfl)
    (hline : (apos.endLine == cpos.line) = true := by rfl)
    (hs : starEach [.Tuple es k tpos, .List [] lpos] X.env = (false, eval (.Tuple es k tpos) X.env) :: starEach [.List [] lpos] X.env := by rfl)
    (hs2 : starEach [.List [] lpos] X.env = (false, eval (.List [] lpos) X.env) :: starEach [] X.env := by rfl)
    (hplain : (backTo cpos (starEach [.List [] lpos] X.env)).any (·.1) = false := by rfl) :
    JE X Cl E (.Call (.Attribute o "setdefault" apos) [.Tuple es k tpos, .List [] lpos] [] cpos) (mSetDef mo mr) := by
  obtain ⟨_, p1, q1⟩ := ho.ex
  obtain ⟨_, p2, q2⟩ := ha.ex
  refine ⟨_, pe_bm F.plainAttrs_dict F.slot_dict_setdefault F.type_dict_setdefault (mt_setdefT hu) p1 (pa_cons (pe_tup p2) (pa_cons (pe_lst pa_nil) pa_nil hs2) hs) hbase hfew hline hs hplain, fun β H σ s st Q hr hs h => q1 β H σ s st _ hr hs (h.bind fun x st1 β1 H1 v _ e1 hr1 rx1 h1 => ?_)⟩
  cases x with
  | ref r =>
    simp only at h1
    split at h1
    · rename_i kv0 es1
      have ty : tyV X.K "dict" v H1 := by
        obtain ⟨a, rfl, _, gs, hg, _⟩ := rx1.atRef hr1 es1 (by intro z; cases z)
        exact .inr (.inr (.inl ⟨rfl, .inr ⟨gs, hg⟩⟩))
      refine ⟨ty, q2 β1 H1 σ s st1 _ hr1 (hs.ext e1) (h1.bind fun ks st2 β2 H2 vs _ e2 hr2 rk h2 => ?_)⟩
      have rx2 := rx1.ext e2
      split at h2
      · rename_i kvs k es2 ek
        split at h2
        · rename_i hz
          have evs := keysT_ok rk ek
          refine ⟨by rw [← rk.length]; exact hz.2, fun p hp => ?_⟩
          refine ⟨Nat.zero_le _, fun l hl => ?_⟩
          have e3 : Ext X.K β2 H2 β2 (upd H2 p (.tup vs)) := Ext.new hp
          have hr3 : HR X.K Cl β2 (upd H2 p (.tup vs)) st2 := hr2.new hp
          have hpl : p ≠ l := fun z => by subst z; rw [upd_same] at hl; cases hl
          have hkey : ∀ (o : HO), (upd (upd H2 p (.tup vs)) l o) p = some (.tup (k.map kV)) := fun o => by rw [upd_ne hpl, upd_same, evs]
          cases ew : valW kvs k with
          | some w =>
            rw [ew] at h2
            have e4 : Ext X.K β2 (upd H2 p (.tup vs)) β2 (upd (upd H2 p (.tup vs)) l (.lst [])) := Ext.new hl
            have hr4 : HR X.K Cl β2 (upd (upd H2 p (.tup vs)) l (.lst [])) st2 := hr3.new hl
            obtain ⟨a, rfl, hb, gs, hg, hrs⟩ := ((rx2.ext e3).ext e4).atRef hr4 es2 (by intro z; cases z)
            obtain ⟨v', hv', rv'⟩ := hrs.val ew
            refine ⟨a, gs, k, p, _, rfl, rfl, hg, hkey _, by rw [← hrs.length]; exact hz.1, fun v0 e0 => ?_, fun e0 => by rw [hv'] at e0; cases e0⟩
            rw [hv'] at e0; cases e0
            exact h2 β2 _ _ (e3.trans e4) hr4 rv'
          | none =>
            rw [ew] at h2
            have e4 : Ext X.K β2 (upd H2 p (.tup vs)) (β2.push l) (upd (upd H2 p (.tup vs)) l (.lst [])) := Ext.push hl
            have hr4 : HR X.K Cl (β2.push l) (upd (upd H2 p (.tup vs)) l (.lst [])) (st2 ++ [.lst []]) := hr3.push hl ⟨[], upd_same, .nil⟩
            have hlt : r < st2.length := (List.getElem?_eq_some_iff.mp es2).1
            have es4 : (st2 ++ [Ob.lst []])[r]? = some (.dT kvs) := by rw [List.getElem?_append_left hlt]; exact es2
            obtain ⟨a, rfl, hb, gs, hg, hrs⟩ := ((rx2.ext e3).ext e4).atRef hr4 es4 (by intro z; cases z)
            have em : Ext X.K (β2.push l) _ (β2.push l) (upd (upd (upd H2 p (.tup vs)) l (.lst [])) a (.dT (putK gs k (.ref l)))) := Ext.mut hr4 hb hg trivial
            have rl : RV X.K (β2.push l) (upd (upd H2 p (.tup vs)) l (.lst [])) (.ref st2.length) (.ref l) := .ref (by rw [← hr3.len]; exact push_last)
            refine ⟨a, gs, k, p, _, rfl, rfl, hg, hkey _, by rw [← hrs.length]; exact hz.1, ⟨fun v0 e0 => (by rw [hrs.valN ew] at e0; cases e0), fun _ => ?_⟩⟩
            exact h2 (β2.push l) _ _ ((e3.trans e4).trans em) (hr4.mut hb hg trivial ⟨_, upd_same, (hrs.put k rl).ext em⟩) (rl.ext em)
        · exact h2.elim
      · exact h2.elim
    · exact h1.elim
  | _ => exact h1.elim
end
end Mi
/-! The mirror layer, part K: the values of a dict with tuple keys walked (the dict locked). -/
namespace Mi
open PySem PySem.W PySem.Calls PyProof.Rows PyProof.V PySem.Spec L2
def Itdt (d : Addr) (o : Obj) (kvs : List (List Key × V)) : It :=
  ⟨fun i H => H d = some (.frz o (.dT kvs)) ∧ i < kvs.length, fun i H x H' => H' = H ∧ ∃ k, kvs[i]? = some (k, x), fun i H => H d = some (.frz o (.dT kvs)) ∧ kvs.length ≤ i⟩
section
variable {X : Cx} {pins : List (Addr × Obj)} {σ : L2.St} {H : Hp} {s : Shared} {d : Addr} {o : Obj}
theorem frzTv {kvs : List (List Key × V)} (I : Inv X pins σ H s) (h : H d = some (.frz o (.dT kvs))) :
    (d == sysModules) = false ∧ s.heap.get? d = some o ∧ o.ExactDict ∧ ∃ (es : Array DictEntry) (ep : Nat), o.data = .dict es ep ∧ es.size = kvs.length ∧
      ∀ (i : Nat) (k : List Key) (v : V), kvs[i]? = some (k, v) → ∃ (en : DictEntry), es[i]? = some en ∧ RelV v en.val := by
  obtain ⟨hd, z, hs, xs, pr, o', es, ep, ho, hx, hdt, he, _⟩ := I.hok d _ h
  rw [hd] at ho
  cases ho
  refine ⟨hs, hd, hx, es, ep, hdt, ?_, fun i k v e => ?_⟩
  · have l1 : es.size = xs.length := size_of_entries he
    have l2 : kvs.length = xs.length := Paired.length pr
    omega
  · obtain ⟨b, hb, e1, e2, e3⟩ := paired_get pr e
    have q := entry_at he i
    rw [hb] at q
    exact ⟨_, q, e3⟩
end
section
variable {P : Program} {w : World} {K : PySem.W.Frag} {tg : Expr} {d : Addr} {o : Obj} {es : Array DictEntry} {ep : Nat}
theorem turn_valsT {kvs : List (List Key × V)} (it : Addr) (hod : o.data = .dict es ep) : Turn P w K tg (Itdt d o kvs) [it] it (fun i h => h.IsValIter it d i kvs.length ep) where
  mem := by simp
  obj := fun i h st b hb => by
    have e : b = it := by simpa using hb
    subst e
    obtain ⟨oi, e, c, dd⟩ := st
    exact ⟨oi, e, fun v z => by rw [dd] at z; cases z⟩
  keep := fun i h h' st k => st.at fun oi e => k it (by simp) oi e
  item := by
    intro X hP hw hK hc i pins s σ H E I hf st hg
    subst hP hw hK
    obtain ⟨hd, hi⟩ := hg
    obtain ⟨f0, f1, f2, f3, f4, f5⟩ := hf it (by simp)
    obtain ⟨hs, hgd, hx, es', ep', hdt, hsz, ent⟩ := frzTv I hd
    obtain ⟨rfl, rfl⟩ := dict_ep hod hdt
    obtain ⟨⟨k, v⟩, hkv⟩ : ∃ p, kvs[i]? = some p := ⟨kvs[i], List.getElem?_eq_getElem hi⟩
    obtain ⟨en, hen, ru⟩ := ent i k v hkv
    obtain ⟨hil, hie⟩ := Array.getElem?_eq_some_iff.mp hen
    rw [← hsz] at st
    refine wpAny_pyNext_values_item_raw st ⟨o, hgd, hx, hdt⟩ hil fun h' st' sb => ?_
    have I1 : Inv X pins σ H { s with heap := h' } := I.turned (t' := s.toks) (fun b ob hb e => (sb.2 b hb).trans e) f0 f1 f3 f4 f5
    obtain ⟨oi, e, c, dd⟩ := id st'
    rw [hie]
    refine ⟨en.val, rfl, go_of (s := { s with heap := h' }) e c dd (by decide) ⟨v, H, I1, ru, ⟨rfl, k, hkv⟩, ?_, fun b hb => (hf b hb).1⟩⟩
    show h'.IsValIter it d (i + 1) kvs.length _
    rw [← hsz]
    exact st'
  done := by
    intro X hP hw hK hc i pins s σ H E I hf st hg
    subst hP hw hK
    obtain ⟨hd, hi⟩ := hg
    obtain ⟨f0, f1, f2, f3, f4, f5⟩ := hf it (by simp)
    obtain ⟨hs, hgd, hx, es', ep', hdt, hsz, ent⟩ := frzTv I hd
    obtain ⟨rfl, rfl⟩ := dict_ep hod hdt
    rw [← hsz] at st
    exact wpAny_pyNext_values_end_raw (I.ok.hd hc) st ⟨o, hgd, hx, hdt⟩ (by omega) fun h' eb => ⟨rfl, I.turned (t' := s.toks) (fun b ob hb e => eb b ob hb e) f0 f1 f3 f4 f5⟩
  self := fun A i s Q E st h => wpAny_pyIter_valiter st h
end
def iValsT (td : TE) : TI := fun σ H R => td σ H fun x H1 => ∃ d o kvs, x = .ref d ∧ H1 d = some (.frz o (.dT kvs)) ∧ R (Itdt d o kvs) H1
theorem pi_valuesT {X : Cx} {tg e : Expr} {td : TE} {apos cpos : Pos} (he : PE X e td) (hbase : attributeBase e "values" X.env (eval e X.env) = eval e X.env := by rfl) (hline : (apos.endLine == cpos.line) = true := by rfl) : PI X tg (.Call (.Attribute e "values" apos) [] [] cpos) (iValsT td) := by
  refine ⟨fun pins s σ H R I h => ?_⟩
  refine wpAny_Call_method (T := "dict") (id := "dict.values") hbase rfl hline F.plainAttrs_dict F.slot_dict_values F.type_dict_values (thn (he.run pins s σ H _ I h) fun u s1 ⟨x, H1, I1, rx, d, o, kvs, ex, hd, q⟩ => ?_)
  subst ex
  obtain rfl : u = Value.ref d := rx
  obtain ⟨hs, hgd, hx, es, ep, hdt, hsz, ent⟩ := frzTv I1 hd
  have hraw : s1.heap.DictRaw d es ep := ⟨o, hgd, hx, hdt⟩
  have hty : s1.TypeIs (.ref d) "dict" := ⟨o, hgd, hx.1⟩
  refine ⟨hty, ?_, ?_⟩
  · intro a ea; cases ea; exact ⟨o, hgd, hx.2.1⟩
  have I2 : Inv X pins σ H1 { s1 with heap := s1.heap.push { cls := .type "dict_values", data := .fields #[.ref d] } } := I1.kept (t' := s1.toks) fun b ob q => Heap.get?_push_of_some _ q
  have fin : wpAny (model X.prog X.w) X.A (pyIter (.ref s1.heap.objs.size)) (PIE X pins σ tg R) X.xe { s1 with heap := s1.heap.push { cls := .type "dict_values", data := .fields #[.ref d] } } := by
    refine wpAny_pyIter_values_raw (d := d) (es := es) (ep := ep) ⟨_, Heap.get?_push_size _ rfl, rfl, rfl⟩ ⟨o, Heap.get?_push_of_some _ hgd, hx, hdt⟩ (pi_one (tk := s1.toks) I2 _ (turn_valsT _ hdt) ⟨_, Heap.get?_push_size _ rfl, rfl, ?_⟩ q)
    rw [hsz] <;> rfl
  show wpAny _ _ (callWith cpos (.builtin "dict.values") [.ref d] [] []) _ X.xe s1
  exact method_meetsIn F.slot_dict_values F.entry_dict_values rfl (PySem.evalArgs_none ⟨rfl, hty, F.args_dict_values_1 _, _, meets_dict_values_raw d hs, ⟨⟨es, ep, hraw⟩, fin⟩⟩)
end Mi
/-! The mirror layer, part L: [len(x) for x in self.f.values()], f a dict with tuple keys whose values are lists. -/
namespace Mi
open PySem L2
@[simp] def lensW (st : Sto) : List (List Key × W) → Option (List Int)
  | [] => some []
  | (_, .ref l) :: r => match st[l]?, lensW st r with
    | some (.lst ws), some ls => some ((ws.length : Nat) :: ls)
    | _, _ => none
  | _ => none
def mLenVals (c : Nat) (f : Str) (i v : Nat) : ME := fun s st => match s[i]? with
  | some (some (.ref q)) => match st[q]? with
    | some (.ins d fs) => match fs.lookup f with
      | some (.ref r) => match st[r]? with
        | some (.dT kvs) => match lensW st kvs with
          | some ls => if d = c ∧ v < s.length ∧ kvs.length < sizeLine then .ok (.lst (ls.map W.int)) st else .stuck
          | none => .stuck
        | _ => .stuck
      | _ => .stuck
    | _ => .stuck
  | _ => .stuck
theorem lensW_ok {K : PySem.W.Frag} {Cl : Nat → Addr} {β : Bt} {H : Hp} {st : Sto} (hr : HR K Cl β H st) : ∀ {kvs : List (List Key × W)} {gs : List (List Key × V)} {ls : List Int}, RF K β H kvs gs → lensW st kvs = some ls →
    ls.length = gs.length ∧ ∀ (j : Nat) (k : List Key) (v : V), gs[j]? = some (k, v) → ∃ (l : Addr) (us : List V), v = .ref l ∧ H l = some (.lst us) ∧ ls[j]? = some ((us.length : Nat) : Int)
  | _, _, ls, .nil, h => by simp only [lensW] at h; cases h; exact ⟨rfl, fun j k v e => by simp at e⟩
  | _, _, ls, .cons (k := k0) (w := w) (v := v0) (fs := fs) (gs := gs) h0 t, h => by
    cases w with
    | ref l =>
      simp only [lensW] at h
      split at h
      · rename_i ws ls' e1 e2
        cases h
        obtain ⟨h1, h2⟩ := lensW_ok hr t e2
        obtain ⟨a, rfl, _, us, hu, hrs⟩ := h0.atRef hr e1 (by intro z; cases z)
        refine ⟨by simp [h1], fun j k v e => ?_⟩
        cases j with
        | zero =>
          simp at e
          obtain ⟨rfl, rfl⟩ := e
          exact ⟨a, us, rfl, hu, by simp [hrs.length]⟩
        | succ j =>
          simp at e
          obtain ⟨l', us', q1, q2, q3⟩ := h2 j k v e
          exact ⟨l', us', q1, q2, by simpa using q3⟩
      · cases h
    | _ => simp [lensW] at h
section
variable {X : Cx} {Cl : Nat → Addr} {E : XK}
theorem rvs_ints {K : PySem.W.Frag} {β : Bt} {H : Hp} : ∀ ls : List Int, RVs K β H (ls.map W.int) (ls.map V.int)
  | [] => .nil
  | _ :: ls => .cons (.int _) (rvs_ints ls)
def rLen (K : PySem.W.Frag) : List V → Hp → VK → Prop := fun xs H Q => ∃ x n, xs = [x] ∧ LenV K x H n ∧ Q (.int n) H
theorem se_lenVals {K : PySem.W.Frag} {c : Nat} {f : Str} {i v : Nat} (hc : Cls K (Cl c)) (hn : NoAttr K (Cl c) f) :
    SE K Cl E (tLockE (tLc (iValsT (tFld K (tVar i) f)) (gName v) tYes (tCB (rLen K) (tCons (tVar v) tNil)) [v])) (mLenVals c f i v) := fun β H σ s st Q hr hs h => by
  unfold mLenVals at h
  split at h
  · rename_i q es
    split at h
    · rename_i d fs eq
      split at h
      · rename_i r el
        split at h
        · rename_i kvs er
          split at h
          · rename_i ls els
            split at h
            · rename_i hz
              obtain ⟨rfl, hv, hkl⟩ := hz
              obtain ⟨x, hx, rx⟩ := hs.2 i _ es
              obtain ⟨a, rfl, _, dx, gs, ha, hrs⟩ := rx.atRef hr eq (by intro z; cases z)
              obtain ⟨y, hy, ry⟩ := hrs.look el
              obtain ⟨dd, rfl, _, gv, hd, hrv⟩ := ry.atRef hr er (by intro z; cases z)
              obtain ⟨l1, l2⟩ := lensW_ok hr hrv els
              have hne : a ≠ dd := fun z => by subst z; rw [hd] at ha; cases ha
              refine ⟨dd, .dT gv, hd, trivial, fun od => ?_⟩
              refine ⟨_, hx, a, _, dx, gs, _, rfl, (by rw [upd_ne hne]; exact ha), hc, hn, hy, dd, od, gv, rfl, upd_same, fun D hD => ?_⟩
              have hDd : D ≠ dd := fun z => by subst z; rw [upd_same] at hD; cases hD
              have hDH : H D = none := by rw [upd_ne hDd] at hD; exact hD
              refine ⟨fun j m H' => H' = upd (upd H dd (.frz od (.dT gv))) D (.lst ((ls.take j).map V.int)) ∧ m = gv.length - j, ⟨gv.length, by simp⟩, ?_⟩
              rintro j m H' ⟨rfl, rfl⟩
              have hfd : (upd (upd H dd (.frz od (.dT gv))) D (.lst ((ls.take j).map V.int))) dd = some (.frz od (.dT gv)) := by rw [upd_ne (Ne.symm hDd), upd_same]
              by_cases hj : gv.length ≤ j
              · refine .inl ⟨⟨hfd, hj⟩, hfd, ?_⟩
                rw [List.take_of_length_le (by omega)]
                have e : upd (upd (upd H dd (.frz od (.dT gv))) D (.lst (ls.map V.int))) dd (.dT gv) = upd H D (.lst (ls.map V.int)) := by
                  funext b
                  by_cases b1 : b = dd
                  · subst b1; rw [upd_same, upd_ne (Ne.symm hDd), hd]
                  · rw [upd_ne b1]
                    by_cases b2 : b = D
                    · subst b2; rw [upd_same, upd_same]
                    · rw [upd_ne b2, upd_ne b1, upd_ne b2]
                rw [e]
                exact Po.lst h hr hDH (rvs_ints ls)
              · refine .inr ⟨⟨hfd, by omega⟩, fun H'' => H'' = upd (upd H dd (.frz od (.dT gv))) D (.lst ((ls.take (j + 1)).map V.int)), fun H'' e => ⟨gv.length - (j + 1), by omega, e, rfl⟩, ?_⟩
                rintro x H'' ⟨rfl, k, hk⟩
                obtain ⟨l, us, rfl, hl, hls⟩ := l2 j k x hk
                have hld : l ≠ dd := fun z => by subst z; rw [hd] at hl; cases hl
                have hlD : l ≠ D := fun z => by subst z; rw [hDH] at hl; cases hl
                have hvl : v < σ.length := by rw [← hs.1]; exact hv
                refine ⟨?_, ?_⟩
                · show (((σ.set v none).set v _).set v none) = σ.set v none
                  simp
                · unfold tYes
                  simp only [if_true]
                  have HLL : SqL K (upd (upd H dd (.frz od (.dT gv))) D (.lst ((ls.take j).map V.int))) l us := .inl (.inl (by rw [upd_ne hlD, upd_ne hld]; exact hl))
                  refine ⟨_, (by show ((σ.set v none).set v _)[v]? = _; rw [List.getElem?_set_self (by simpa using hvl)]), _, us.length, rfl, (show LenV K (.ref l) _ us.length from Or.inl ⟨us, HLL, rfl⟩), (ls.take j).map V.int, upd_same, ?_, ?_⟩
                  · rw [List.length_map, List.length_take]
                    have := hrv.length
                    omega
                  · rw [List.take_succ, hls]
                    funext b
                    by_cases b2 : b = D
                    · subst b2; rw [upd_same, upd_same]; simp
                    · rw [upd_ne b2, upd_ne b2, upd_ne b2]
            · exact h.elim
          · exact h.elim
        · exact h.elim
      · exact h.elim
    · exact h.elim
  · exact h.elim
end
end Mi
namespace Mi
open PySem L2
section
variable {X : Cx} {Cl : Nat → Addr} {E : XK}
theorem pe_lenName {y : Str} {p p2 pos : Pos} (v : Nat) (hm : X.mg "len" = none) (hv : bootBuiltins "len" = some (.builtin "len")) (hN : X.N[v]? = some y := by rfl) (hvis : Vis X.env.scope y := by first | exact Or.inl rfl | exact Or.inr (Or.inl rfl) | exact Or.inr (Or.inr rfl)) (hd : (y == ("__debug__" : Str)) = false := by decide)
    (hcd : (y == ("__classdict__" : Str)) = false := by decide) (hg : Gl X "len" := by rfl)
    (he : starEach [.Name y p2] X.env = (false, eval (.Name y p2) X.env) :: starEach [] X.env := by rfl) (hpl : (backTo pos (starEach [] X.env)).any (·.1) = false := by rfl) : PE X (.Call (.Name "len" p) [.Name y p2] [] pos) (tCB (rLen X.K) (tCons (tVar v) tNil)) :=
  pe_callB call_len hg hm hv (pa_cons (pe_var hN hvis hd hcd) pa_nil he) (by decide) (by decide) he hpl
theorem je_lenVals {c : Nat} {f self y : Str} {i v : Nat} {elt : Expr} {scope : Scope} {p4 p5 p6 p7 p8 pos : Pos} (hc : X.calm = true) (hN : X.N.Nodup) (hcl : Cls X.K (Cl c)) (hn : NoAttr X.K (Cl c) f) (ok : BlkOk X.N X.env.scope scope [(y, v)])
    (hg : ∀ (s : Shared) (H : Hp) (C : Addr) (cl : List (Str × Addr)) (fp : List Addr), JN (X.blk s H scope (compEnvC scope cl C X.env) fp) (.Name y p4) (.nm v))
    (he : ∀ (s : Shared) (H : Hp) (C : Addr) (cl : List (Str × Addr)) (fp : List Addr), PE (X.blk s H scope (compEnvC scope cl C X.env) fp) elt (tCB (rLen X.K) (tCons (tVar v) tNil)))
    (hself : X.N[i]? = some self := by rfl) (hvis : Vis X.env.scope self := by first | exact Or.inl rfl | exact Or.inr (Or.inl rfl) | exact Or.inr (Or.inr rfl)) (hd : (self == ("__debug__" : Str)) = false := by decide)
    (hcd : (self == ("__classdict__" : Str)) = false := by decide) (hb : attributeBase (.Name self p5) f X.env (eval (.Name self p5) X.env) = eval (.Name self p5) X.env := by rfl)
    (hbase : attributeBase (.Attribute (.Name self p5) f p6) "values" X.env (eval (.Attribute (.Name self p5) f p6) X.env) = eval (.Attribute (.Name self p5) f p6) X.env := by rfl) (hline : (p7.endLine == p8.line) = true := by rfl)
    (hs : ∀ x, foldedSetIterable (.Call (.Attribute (.Attribute (.Name self p5) f p6) "values" p7) [] [] p8) X.env x = pure x := by intro _; rfl) :
    JE X Cl E (.ListComp elt [⟨.Name y p4, .Call (.Attribute (.Attribute (.Name self p5) f p6) "values" p7) [] [] p8, [], 0⟩] scope pos) (mLenVals c f i v) :=
  ⟨_, pe_lock (pe_lc hc hN (pi_valuesT (pe_fld (pe_var hself hvis hd hcd) hb) hbase hline) ok (fun s H C cl fp => (hg s H C cl fp).pg) (fun s H C cl fp => pts_nil) he hs), se_lenVals hcl hn⟩
end
end Mi
/-! The mirror layer, part Q: what several laws' drawing functions share. -/
namespace Mi
open PySem L2
/-- the bag: a number left over, a seed, a place, the last cell, the cells -/
def BagOb (o : Ob) : Prop := ∃ (a b c d : Int) (ns : List Int), o = .lst [.int a, .int b, .int c, .int d, .lst (ns.map W.int)] ∧ 0 ≤ c
def Sm (i : Nat) (st st' : Sto) : Prop := st'.length = st.length ∧ (∀ k : Nat, k ≠ i → st'[k]? = st[k]?) ∧ ∃ o, st'[i]? = some o ∧ BagOb o
theorem Sm.trans {i : Nat} {a b c : Sto} (h : Sm i a b) (k : Sm i b c) : Sm i a c := ⟨k.1.trans h.1, fun j hj => (k.2.1 j hj).trans (h.2.1 j hj), k.2.2⟩
theorem Sm.refl {i : Nat} {st : Sto} {o : Ob} (h : st[i]? = some o) (b : BagOb o) : Sm i st st := ⟨rfl, fun _ _ => rfl, o, h, b⟩
theorem Sm.here {i : Nat} {a b : Sto} (h : Sm i a b) : Sm i b b := ⟨rfl, fun _ _ => rfl, h.2.2⟩
theorem Sm.set {i : Nat} {st : Sto} {o : Ob} (hi : i < st.length) (b : BagOb o) : Sm i st (st.set i o) := ⟨by simp, fun k hk => by rw [List.getElem?_set_ne (Ne.symm hk)], o, by simp [hi], b⟩
theorem Sm.lt {i : Nat} {a b : Sto} (h : Sm i a b) : i < b.length := by obtain ⟨_, _, o, h, _⟩ := h; exact (List.getElem?_eq_some_iff.mp h).1
theorem pick (P : Int → Prop) (vs : List Int) (r : Int) (r0 : 0 ≤ r) (r1 : r < vs.length) (h : ∀ v ∈ vs, P v) : ∃ v, atI (vs.map W.int) r = some (.int v) ∧ P v := by
  have hi : r.toNat < vs.length := by omega
  exact ⟨vs[r.toNat], atI_nn r0 (by simp [hi]), h _ (List.getElem_mem hi)⟩
theorem lg {m : Int} (h0 : 0 < m) (h1 : m < 18446744073709551616) : m.natAbs.log2 < 9000 := by
  have h := (Nat.log2_lt (n := m.natAbs) (k := 64) (by omega)).mpr (by omega)
  omega
end Mi
/-! The mirror layer, part T: rows of a tree over a list of numbers. -/
namespace Mi
open PySem L2
/-- a row's item -/
def gt (row : List Int) (p : Nat) : Int := row.getD p 0
theorem gt_get {row : List Int} {p : Nat} (h : p < row.length) : row[p]? = some (gt row p) := by simp [gt, List.getD, h]
/-- the row above a row -/
def prs (f : Int → Int → Int) (row : List Int) : List Int := (List.range (row.length / 2)).map fun k => f (gt row (2 * k)) (gt row (2 * k + 1))
theorem prs_len (f : Int → Int → Int) (row : List Int) : (prs f row).length = row.length / 2 := by simp [prs]
theorem prs_getD (f : Int → Int → Int) (row : List Int) (k : Nat) (h : k < row.length / 2) : gt (prs f row) k = f (gt row (2 * k)) (gt row (2 * k + 1)) := by
  simp [gt, prs, List.getD, h]
def lev (f : Int → Int → Int) (row : List Int) : Nat → List Int
  | 0 => row
  | k + 1 => prs f (lev f row k)
theorem lev_len (f : Int → Int → Int) (row : List Int) : ∀ k, (lev f row k).length = row.length / 2 ^ k
  | 0 => by simp [lev]
  | k + 1 => by rw [lev, prs_len, lev_len f row k, Nat.div_div_eq_div_mul, Nat.pow_succ]
theorem getD_set_ne {l : List Int} {p q : Nat} {d : Int} (h : p ≠ q) : gt (l.set p d) q = gt l q := by
  simp [gt, List.getD, List.getElem?_set_ne h]
theorem getD_set_self {l : List Int} {p : Nat} {d : Int} (h : p < l.length) : gt (l.set p d) p = d := by
  simp [gt, List.getD, h]
/-- a row in which one place has changed, the rows above it -/
theorem prs_set (f : Int → Int → Int) (row : List Int) (p : Nat) (d : Int) : prs f (row.set p d) = (prs f row).set (p / 2) (f (gt (row.set p d) (2 * (p / 2))) (gt (row.set p d) (2 * (p / 2) + 1))) := by
  refine List.ext_getElem (by simp [prs_len]) fun k h1 h2 => ?_
  have hk : k < row.length / 2 := by simpa [prs_len] using h1
  rw [List.getElem_set]
  by_cases e : p / 2 = k
  · subst e
    simp [prs]
  · rw [if_neg e]
    simp only [prs, List.getElem_map, List.getElem_range]
    rw [getD_set_ne (by omega), getD_set_ne (by omega)]
theorem lev_set (f : Int → Int → Int) (row : List Int) (p : Nat) (d : Int) (hp : p < row.length) : ∀ k, 2 ^ k ∣ row.length → lev f (row.set p d) k = (lev f row k).set (p / 2 ^ k) (gt (lev f (row.set p d) k) (p / 2 ^ k))
  | 0, _ => by
    show row.set p d = row.set (p / 2 ^ 0) (gt (row.set p d) (p / 2 ^ 0))
    rw [Nat.pow_zero, Nat.div_one, getD_set_self hp]
  | k + 1, hd => by
    have hd' : 2 ^ k ∣ row.length := Nat.dvd_trans (Nat.pow_dvd_pow 2 (Nat.le_succ k)) hd
    have ih := lev_set f row p d hp k hd'
    have e2 : p / 2 ^ (k + 1) = p / 2 ^ k / 2 := by rw [Nat.div_div_eq_div_mul, Nat.pow_succ]
    have hl : p / 2 ^ (k + 1) < (prs f (lev f (row.set p d) k)).length := by
      rw [prs_len, lev_len, List.length_set, Nat.div_div_eq_div_mul, ← Nat.pow_succ]
      exact Nat.div_lt_div_of_lt_of_dvd hd hp
    show prs f (lev f (row.set p d) k) = (prs f (lev f row k)).set (p / 2 ^ (k + 1)) (gt (prs f (lev f (row.set p d) k)) (p / 2 ^ (k + 1)))
    have hs := prs_set f (lev f row k) (p / 2 ^ k) (gt (lev f (row.set p d) k) (p / 2 ^ k))
    rw [← ih] at hs
    rw [e2] at hl ⊢
    rw [prs_getD _ _ _ (by rw [prs_len] at hl; exact hl)]
    exact hs
theorem prs_in (f : Int → Int → Int) (P : Int → Prop) (row : List Int) (h : ∀ x y, P x → P y → P (f x y)) (hr : ∀ x ∈ row, P x) : ∀ x ∈ prs f row, P x := by
  intro x hx
  simp only [prs, List.mem_map, List.mem_range] at hx
  obtain ⟨k, hk, rfl⟩ := hx
  have a1 : 2 * k < row.length := by omega
  have a2 : 2 * k + 1 < row.length := by omega
  have e1 : gt row (2 * k) = row[2 * k] := by simp [gt, List.getD, a1]
  have e2 : gt row (2 * k + 1) = row[2 * k + 1] := by simp [gt, List.getD, a2]
  rw [e1, e2]
  exact h _ _ (hr _ (List.getElem_mem a1)) (hr _ (List.getElem_mem a2))
theorem lev_in (f : Int → Int → Int) (P : Int → Prop) (row : List Int) (h : ∀ x y, P x → P y → P (f x y)) (hr : ∀ x ∈ row, P x) : ∀ k, ∀ x ∈ lev f row k, P x
  | 0 => hr
  | k + 1 => prs_in f P _ h (lev_in f P row h hr k)
/-! ### rows of numbers compared -/
theorem lay_ints : ∀ ns : List Int, PyData.canLayAll0 (ns.map PyData.int) = true
  | [] => by simp
  | n :: ns => by simp [lay_ints ns]
theorem dep_ints : ∀ ns : List Int, PyData.depthAll (ns.map PyData.int) = 0
  | [] => by simp
  | n :: ns => by simp [dep_ints ns]
theorem eqvA_ints : ∀ ns ms : List Int, PyData.eqvAll (ns.map PyData.int) (ms.map PyData.int) = decide (ns = ms)
  | [], [] => by simp
  | [], m :: ms => by simp
  | n :: ns, [] => by simp
  | n :: ns, m :: ms => by
    rw [List.map_cons, List.map_cons, eqvA_cc, eqv_ii, eqvA_ints ns ms]
    by_cases h1 : n = m <;> by_cases h2 : ns = ms <;> simp [h1, h2]
/-- a comprehension over an object of the store that changes no store -/
theorem lc_cell_at {c n : Nat} {ws : List W} {g : MG} {t : MT} {e : ME} {s : Slo} {st : Sto} (p : W → Bool) (q : W → W) (h0 : st[c]? = some (.lst ws)) (hn : ws.length = n)
    (h : ∀ w ∈ ws, ∃ s2, g w s st = some (s2, st) ∧ t s2 st = .ok (p w) st ∧ (p w = true → e s2 st = .ok (q w) st)) :
    ∀ (k i : Nat) (acc : List W), i + k = ws.length → acc.length + k ≤ sizeLine →
      mLcLoop (.cell c n) g t e s k i acc st = .ok (acc ++ ((ws.drop i).filter p).map q) st
  | 0, i, acc, e, hl => by
    have e' : i = ws.length := by omega
    subst e'
    simp only [mLcLoop, Src.fine, h0, hn, decide_true, if_true]
    rw [← hn, List.drop_length, List.filter_nil, List.map_nil, List.append_nil]
  | k + 1, i, acc, e, hl => by
    have hi : i < ws.length := by omega
    obtain ⟨s2, hg, ht, he⟩ := h ws[i] (List.getElem_mem hi)
    have hd := List.drop_eq_getElem_cons hi
    simp only [mLcLoop, Src.fine, Src.at, h0, hn, decide_true, if_true, List.getElem?_eq_getElem hi, hg, ht]
    cases hp : p ws[i] with
    | true =>
      simp only [he hp]
      rw [if_pos (by omega), lc_cell_at p q h0 hn h k (i + 1) _ (by omega) (by simp; omega)]
      rw [hd, List.filter_cons, hp]
      simp only [if_true, List.map_cons, List.append_assoc, List.singleton_append]
    | false =>
      simp only []
      rw [lc_cell_at p q h0 hn h k (i + 1) _ (by omega) (by omega), hd, List.filter_cons, hp]
      simp only [Bool.false_eq_true, if_false]
theorem filter_yes {α : Type} (l : List α) : (l.filter fun _ => true) = l := List.filter_eq_self.mpr fun _ _ => rfl
@[simp high] theorem aT (S T : Sto) (k : Nat) : (S ++ T)[S.length + k]? = T[k]? := by rw [List.getElem?_append_right (by omega)]; congr 1; omega
@[simp high] theorem a0 (S T : Sto) : (S ++ T)[S.length]? = T[0]? := aT S T 0
@[simp high] theorem sT (S T : Sto) (k : Nat) (x : Ob) : (S ++ T).set (S.length + k) x = S ++ T.set k x := by rw [List.set_append_right _ _ (by omega)]; congr 2; omega
@[simp high] theorem s0 (S T : Sto) (x : Ob) : (S ++ T).set S.length x = S ++ T.set 0 x := sT S T 0 x
end Mi
/-! The mirror layer, part R: reading by `simp`: fields, places, sizes. -/
namespace Mi
open PySem L2
@[simp] theorem beq_lit (a b : String) : (Str.ofString a == Str.ofString b) = decide (a = b) := by
  by_cases h : a = b
  · subst h; simp
  · have h2 : Str.ofString a ≠ Str.ofString b := fun e => h ((ofString_iff a b).mp e)
    simp [h]
@[simp] theorem lk_nil (k : Str) : List.lookup k ([] : Fl) = none := rfl
@[simp] theorem lk_lit (a b : String) (w : W) (r : Fl) : List.lookup (Str.ofString a) ((Str.ofString b, w) :: r) = if a = b then some w else List.lookup (Str.ofString a) r := by
  rw [List.lookup_cons, beq_lit]
  by_cases h : a = b <;> simp [h]
theorem atI_nat {α : Type} (xs : List α) (k : Nat) : atI xs (k : Int) = xs[k]? := by
  by_cases h : k < xs.length
  · rw [List.getElem?_eq_getElem h]
    exact atI_nn (by omega) (by simp [h])
  · have h2 : ixN xs.length (k : Int) = none := by
      simp only [ixN, if_pos (show (0 : Int) ≤ (k : Int) by omega)]
      rw [if_neg (by omega)]
    rw [atI, h2, List.getElem?_eq_none (by omega)]; rfl
@[simp] theorem atI_ofNat {α : Type} (xs : List α) (k : Nat) : atI xs (no_index (OfNat.ofNat k : Int)) = xs[(OfNat.ofNat k : Nat)]? := atI_nat xs k
theorem atI_last {α : Type} (xs : List α) : atI xs (-1) = xs.getLast? := by
  cases xs with
  | nil => rfl
  | cons x xs =>
    have h : ixN (x :: xs).length (-1) = some xs.length := by
      simp only [ixN, List.length_cons]
      rw [if_neg (by omega), if_pos (by omega)]
      congr 1
      omega
    rw [atI, h, List.getLast?_eq_getElem?]
    simp
theorem ixN_nat (n k : Nat) : ixN n (k : Int) = if k < n then some k else none := by
  by_cases h : k < n
  · simp only [ixN, if_pos (show (0 : Int) ≤ (k : Int) by omega), if_pos (show (k : Int) < (n : Int) by omega), if_pos h, Int.toNat_natCast]
  · simp only [ixN, if_pos (show (0 : Int) ≤ (k : Int) by omega), if_neg (show ¬ (k : Int) < (n : Int) by omega), if_neg h]
@[simp] theorem ixN_ofNat (n k : Nat) : ixN n (no_index (OfNat.ofNat k : Int)) = if (OfNat.ofNat k : Nat) < n then some (OfNat.ofNat k : Nat) else none := ixN_nat n k
theorem ixN_last (n : Nat) : ixN n (-1) = if 0 < n then some (n - 1) else none := by
  by_cases h : 0 < n
  · simp only [ixN]
    rw [if_neg (by omega), if_pos (by omega), if_pos h]
    congr 1
    omega
  · simp only [ixN]
    rw [if_neg (by omega), if_neg (by omega), if_neg h]
@[simp] theorem log2_lt {n : Nat} (h : n < 18446744073709551616) : n.log2 < 9000 := by
  by_cases h0 : n = 0
  · subst h0; decide
  · have := (Nat.log2_lt (n := n) (k := 64) h0).mpr (by omega)
    omega
/-! ### the store -/
theorem rd_self {st : Sto} {i : Nat} {o : Ob} (h : (st[i]?).isSome = true) : (st.set i o)[i]? = some o := by
  rw [List.getElem?_set_self]
  by_cases hl : i < st.length
  · exact hl
  · rw [List.getElem?_eq_none (by omega)] at h; cases h
theorem rd_app {st T : Sto} {i : Nat} (h : (st[i]?).isSome = true) : (st ++ T)[i]? = st[i]? := by
  by_cases hl : i < st.length
  · rw [List.getElem?_append_left hl]
  · rw [List.getElem?_eq_none (by omega)] at h; cases h
theorem st_app {st T : Sto} {i : Nat} {o : Ob} (h : (st[i]?).isSome = true) : (st ++ T).set i o = st.set i o ++ T := by
  by_cases hl : i < st.length
  · rw [List.set_append_left _ _ hl]
  · rw [List.getElem?_eq_none (by omega)] at h; cases h
/-- nothing but the objects at A has changed; new ones may stand behind -/
def Only (A : List Nat) (st st' : Sto) : Prop := st.length ≤ st'.length ∧ ∀ i, i < st.length → i ∉ A → st'[i]? = st[i]?
theorem Only.refl (A : List Nat) (st : Sto) : Only A st st := ⟨Nat.le_refl _, fun _ _ _ => rfl⟩
theorem Only.trans {A B : List Nat} {s t u : Sto} (h : Only A s t) (k : Only B t u) (hb : ∀ i ∈ B, i < s.length → i ∈ A) : Only A s u :=
  ⟨Nat.le_trans h.1 k.1, fun i hi ha => (k.2 i (Nat.lt_of_lt_of_le hi h.1) fun z => ha (hb i z hi)).trans (h.2 i hi ha)⟩
theorem Only.mono {A B : List Nat} {s t : Sto} (h : Only A s t) (hb : ∀ i ∈ A, i < s.length → i ∈ B) : Only B s t := ⟨h.1, fun i hi n => h.2 i hi fun z => n (hb i z hi)⟩
theorem Only.rd {A : List Nat} {s t : Sto} (h : Only A s t) {i : Nat} {o : Ob} (e : s[i]? = some o) (n : i ∉ A) : t[i]? = some o := (h.2 i (List.getElem?_eq_some_iff.mp e).1 n).trans e
theorem Only.app (A : List Nat) (s T : Sto) : Only A s (s ++ T) := ⟨by simp, fun i hi _ => List.getElem?_append_left hi⟩
theorem Only.set {A : List Nat} {s : Sto} {i : Nat} {o : Ob} (h : i ∈ A) : Only A s (s.set i o) := ⟨by simp, fun j hj n => List.getElem?_set_ne fun e => n (by rw [← e]; exact h)⟩
theorem Sm.only {i : Nat} {a b : Sto} (h : Sm i a b) : Only [i] a b := ⟨by rw [h.1]; exact Nat.le_refl _, fun k _ n => h.2.1 k fun e => n (by simp [e])⟩
/-! ### walks over a written range -/
theorem mLc_rng1 {a : MA} {k : Int} {n : NT} {t : MT} {e : ME} {vs : List Nat} {s : Slo} {st st1 : Sto} (ha : a s st = .ok [.int k] st1) (h0 : 0 ≤ k) (h1 : k < 4611686018427387904) :
    mLc (mIRng1 a) n t e vs s st = (mLcLoop (.vals (rngW 0 k.toNat)) (NT.m n) t e (wipeW s vs) k.toNat 0 [] st1).bind fun ws st2 => .ok (.lst ws) st2 := by
  simp [ha]
  rw [if_pos (by omega)]
  simp
theorem rng1_ok {a : MA} {k : Int} {s : Slo} {st st1 : Sto} (ha : a s st = .ok [.int k] st1) (h0 : 0 ≤ k) (h1 : k < 4611686018427387904) : mIRng1 a s st = .ok (.vals (rngW 0 k.toNat)) st1 := by
  simp [ha]
  omega
theorem rng1_nat {a : MA} {k : Nat} {s : Slo} {st st1 : Sto} (ha : a s st = .ok [.int (k : Int)] st1) (h1 : k < 1000000000) : mIRng1 a s st = .ok (.vals (rngW 0 k)) st1 := by
  have h := rng1_ok ha (by omega) (by omega)
  rwa [Int.toNat_natCast] at h
theorem mFor_vals {it : MI} {g : MG} {b : MS} {s : Slo} {st st1 : Sto} {ws : List W} {n : Nat} {o : SO} (h : it s st = .ok (.vals ws) st1) (hn : ws.length = n) (k : mLoop (.vals ws) g b n 0 s st1 = o) : mFor it g b s st = o := by
  subst hn
  simp only [mFor, h, Out.run, Src.len_vals, k]
theorem mFor_rng1 {a : MA} {k : Int} {g : MG} {b : MS} {s : Slo} {st st1 : Sto} (ha : a s st = .ok [.int k] st1) (h0 : 0 ≤ k) (h1 : k < 4611686018427387904) :
    mFor (mIRng1 a) g b s st = mLoop (.vals (rngW 0 k.toNat)) g b k.toNat 0 s st1 := by
  simp [ha]
  rw [if_pos (by omega)]
  simp
end Mi
namespace Mi
open PySem L2
theorem mLc_of {it : MI} {n : NT} {t : MT} {e : ME} {vs : List Nat} {s : Slo} {st st1 : Sto} {ws : List W} (hi : it s st = .ok (.vals ws) st1) (hl : ws.length ≤ 1000000) (p : W → Bool) (q : W → W)
    (h : ∀ w ∈ ws, ∃ s2, NT.m n w (wipeW s vs) st1 = some (s2, st1) ∧ t s2 st1 = .ok (p w) st1 ∧ (p w = true → e s2 st1 = .ok (q w) st1)) : mLc it n t e vs s st = .ok (.lst ((ws.filter p).map q)) st1 := by
  simp only [mLc, hi, Out.bind, Src.len_vals, lc_vals p q (show ws.length ≤ sizeLine by rw [sizeLine_eq]; omega) h]
theorem mem_rng {lo : Int} {n : Nat} {w : W} (h : w ∈ rngW lo n) : ∃ k : Nat, k < n ∧ w = .int (lo + (k : Int)) := by
  simp only [rngW, List.mem_map, List.mem_range] at h
  obtain ⟨k, hk, rfl⟩ := h
  exact ⟨k, hk, rfl⟩
theorem mem_rng0 {n : Nat} {w : W} (h : w ∈ rngW 0 n) : ∃ k : Nat, k < n ∧ w = .int (k : Int) := by
  obtain ⟨k, hk, rfl⟩ := mem_rng h
  exact ⟨k, hk, by rw [Int.zero_add]⟩
/-! ### rows of True -/
theorem toPys_rep (b : Bool) : ∀ n : Nat, toPys (List.replicate n (.bl b)) = some (List.replicate n (.bool b))
  | 0 => rfl
  | n + 1 => by simp [List.replicate_succ, toPys, toPys_rep b n]
theorem lay_rep (b : Bool) : ∀ n : Nat, PyData.canLayAll0 (List.replicate n (.bool b)) = true
  | 0 => by simp
  | n + 1 => by simp [List.replicate_succ, lay_rep b n]
theorem dep_rep (b : Bool) : ∀ n : Nat, PyData.depthAll (List.replicate n (.bool b)) = 0
  | 0 => by simp
  | n + 1 => by simp [List.replicate_succ, dep_rep b n]
theorem isIn_true (st : Sto) (ws : List W) (h : ∀ w ∈ ws, w = .bl true) : isIn (.bl false) (.lst ws) st = some false := by
  rw [List.eq_replicate_of_mem h]
  generalize ws.length = n
  simp [isIn, toPyS, toPy, toPys_rep, lay_rep, dep_rep]
theorem toPy_ints (ns : List Int) : toPy (.tup (ns.map W.int)) = some (.tuple (ns.map PyData.int)) := by simp
/-- two tuples of numbers compared -/
theorem mEq_ints (ns ms : List Int) (st : Sto) : mEq (.tup (ns.map W.int)) (.tup (ms.map W.int)) st = .ok (.bl (decide (ns = ms))) st := by
  simp [lay_ints, dep_ints, eqvA_ints]
theorem mNe_ints (ns ms : List Int) (st : Sto) : mNe (.tup (ns.map W.int)) (.tup (ms.map W.int)) st = .ok (.bl (!decide (ns = ms))) st := by
  simp [lay_ints, dep_ints, eqvA_ints]
/-- a list in which all that is told of is one thing -/
theorem one_le {α : Type} (p : α → Bool) (a : α) : ∀ l : List α, l.Nodup → (∀ x ∈ l, p x = true → x = a) → (l.filter p).length ≤ 1
  | [], _, _ => by simp
  | x :: l, hn, h => by
    obtain ⟨h1, h2⟩ := List.nodup_cons.mp hn
    rw [List.filter_cons]
    split
    · rename_i hp
      have e := h x (by simp) hp
      subst e
      have : l.filter p = [] := List.filter_eq_nil_iff.mpr fun y hy hp => h1 (by rw [← h y (by simp [hy]) hp]; exact hy)
      rw [this]; simp
    · exact one_le p a l h2 fun y hy => h y (by simp [hy])
end Mi
namespace Mi
open PySem L2
theorem mEq_ii (i j : Int) (st : Sto) : mEq (.int i) (.int j) st = .ok (.bl (decide (i = j))) st := by simp
theorem mNe_ii (i j : Int) (st : Sto) : mNe (.int i) (.int j) st = .ok (.bl (!decide (i = j))) st := by simp
/-- is a number among numbers (a list as a value) -/
theorem isIn_ints (x : Int) (ns : List Int) (st : Sto) : isIn (.int x) (.lst (ns.map W.int)) st = some (decide (x ∈ ns)) := by
  have h : (ns.map PyData.int).any (fun z => PyData.eqv z (.int x)) = decide (x ∈ ns) := by
    induction ns with
    | nil => simp
    | cons n ns ih =>
      rw [List.map_cons, List.any_cons, ih, eqv_ii]
      by_cases h1 : x = n <;> by_cases h2 : x ∈ ns <;> simp [h1, h2, eq_comm]
  simp [isIn, lay_ints, dep_ints, h]
theorem mIn_ints (x : Int) (ns : List Int) (st : Sto) : mIn (.int x) (.lst (ns.map W.int)) st = .ok (.bl (decide (x ∈ ns))) st := by
  simp only [mIn, isIn_ints]
theorem mNotIn_ints (x : Int) (ns : List Int) (st : Sto) : mNotIn (.int x) (.lst (ns.map W.int)) st = .ok (.bl (!decide (x ∈ ns))) st := by
  simp only [mNotIn, isIn_ints]
theorem mEq_lints (ns ms : List Int) (st : Sto) : mEq (.lst (ns.map W.int)) (.lst (ms.map W.int)) st = .ok (.bl (decide (ns = ms))) st := by
  simp [lay_ints, dep_ints, eqvA_ints]
theorem mNe_lints (ns ms : List Int) (st : Sto) : mNe (.lst (ns.map W.int)) (.lst (ms.map W.int)) st = .ok (.bl (!decide (ns = ms))) st := by
  simp [lay_ints, dep_ints, eqvA_ints]
end Mi
namespace Mi
open PySem L2
/-! ### statement by statement -/
theorem seq_nx {a b : MS} {s s1 : Slo} {st st1 : Sto} {o : SO} (h : a s st = .nx s1 st1) (k : b s1 st1 = o) : mSeq a b s st = o := by
  simp only [mSeq, h, SO.then, k]
theorem seq_rt {a b : MS} {s : Slo} {st st1 : Sto} {w : W} (h : a s st = .rt w st1) : mSeq a b s st = .rt w st1 := by
  simp only [mSeq, h, SO.then]
theorem def_rt {n k : Nat} {body : MS} {ws : List W} {st st' : Sto} {w : W} (hl : ws.length = n) (h : body (ws.map some ++ List.replicate k none) st = .rt w st') : mDef n k body ws st = .ok w st' := by
  simp only [mDef, hl, if_true, h]
theorem def_nx {n k : Nat} {body : MS} {ws : List W} {st st' : Sto} {s' : Slo} (hl : ws.length = n) (h : body (ws.map some ++ List.replicate k none) st = .nx s' st') : mDef n k body ws st = .ok .non st' := by
  simp only [mDef, hl, if_true, h]
end Mi
namespace Mi
open PySem L2
theorem mLc_cell {it : MI} {nt : NT} {t : MT} {e : ME} {vs : List Nat} {s : Slo} {st st1 : Sto} {c n : Nat} {ws : List W} (hi : it s st = .ok (.cell c n) st1) (h0 : st1[c]? = some (.lst ws)) (hn : ws.length = n) (hl : n ≤ 1000000) (p : W → Bool) (q : W → W)
    (h : ∀ w ∈ ws, ∃ s2, NT.m nt w (wipeW s vs) st1 = some (s2, st1) ∧ t s2 st1 = .ok (p w) st1 ∧ (p w = true → e s2 st1 = .ok (q w) st1)) : mLc it nt t e vs s st = .ok (.lst ((ws.filter p).map q)) st1 := by
  have hc : (Src.cell c n).len = n := rfl
  have z := lc_cell_at p q h0 hn h n 0 [] (by omega) (by rw [sizeLine_eq]; simp; omega)
  simp only [mLc, hi, Out.bind, hc, z, List.nil_append, List.drop_zero]
end Mi
namespace Mi
open PySem L2
theorem app_lt0 {α : Type} {s t : List α} {i : Nat} {x : α} (h : s[i]? = some x) : (s ++ t)[i]? = some x := by
  rw [List.getElem?_append_left (List.getElem?_eq_some_iff.mp h).1]; exact h
end Mi
/-! The mirror layer, part X: own errors: raise X(), try: one call, except X: suite. -/
namespace Mi
open PySem L2 PyProof.Rows
/-- what the module's top says of an own class of errors without __init__ -/
structure XCls (K : PySem.W.Frag) (mg : Str → Option Value) (x : Str) (C : Addr) : Prop where
  g : mg x = some (.ref C)
  x : PySem.W.excIn K C [.type "ValueError", .type "Exception", .type "BaseException", .type "object"] "ValueError.__new__" = true
  k : PySem.W.keepIn K (.ref C) = true
  b : PySem.W.subIn K (.ref C) (.type "BaseException") = some true
  t : PySem.W.typeIn K (.ref C) = some (.type "type")
/-- X() -/
theorem pmk_own0 {X : Cx} {C : Addr} {x : Str} {p pos : Pos} (T : XCls X.K X.mg x C) (hg : Gl X x) (hdb : (x == ("__debug__" : Str)) = false := by decide) : PMk X (.Call (.Name x p) [] [] pos) (fun _ H Q => Q (.ref C) none H) := by
  intro pins s σ H Q I h
  refine wpAny_Call_Name_kw (ld_glob I hg T.g ?_ hdb)
  refine PySem.W.callWith_K0 I.kIn T.k ?_
  obtain ⟨bm, N, nm, qn, bs, hdct, sn, sub, ab, col, dd, k0, k1, k2, k3, k5, mN, hC, hN, hni, T2⟩ := exc_obj I.kIn T.x
  refine wpAny_call_exc_subT PySem.F.excBase_ValueError T2 hC hN hni (fun h' e hm => ?_) (Nat.zero_le _)
  exact mk_of I hm (raises_own T.b T.t) h (I.hok.gone hm.new)
@[simp] def mRaise (c : Nat) : MS := fun _ st => .exc c [] st
theorem js_raise0 {X : Cx} {Cl : Nat → Addr} {E : XK} {c : Nat} {x : Str} {p pos pos' : Pos} (T : XCls X.K X.mg x (Cl c)) (tk : Takes X (fun cls d _ H => E cls d H)) (hc : X.calm = true := by rfl) (hg : Gl X x := by rfl) (hdb : (x == ("__debug__" : Str)) = false := by decide) :
    JS X Cl E (.Raise (some (.Call (.Name x p) [] [] pos)) none pos') (mRaise c) :=
  ⟨_, ps_raise hc tk (pmk_own0 T hg hdb), fun β H σ s st D hr hs h => h β H none (Ext.refl _ β H) hr (.inl ⟨rfl, rfl⟩)⟩
/-! ### a call in a try's body -/
structure JC (X : Cx) (Cl : Nat → Addr) (W : WX) (e : Expr) (m : ME) : Prop where
  ex : ∃ t, PE X e t ∧ ∀ β H σ s st Q, HR X.K Cl β H st → SR X.K β H s σ → Po X.K Cl (WE W σ) β H Q (m s st) → t σ H Q
@[simp] def mCallX (n : Nat) (m : MF) (a : MA) : ME := fun s st => match a s st with
  | .ok ws st1 => if ws.length = n then m ws st1 else .stuck
  | _ => .stuck
theorem jc_call {X : Cx} {Cl : Nat → Addr} {W : WX} {k n f : Nat} {fd : FuncData} {ps : List Str} {m : MF} {x : Str} {e : Expr} {es : List Expr} {mr : MA} {p pos : Pos} (F : FnOk X.prog X.w X.K X.mg X.base (L2.CX X.prog X.w) k f fd ps (spM X.K Cl n m)) (tk : Takes X W) (hr : Room k X.A) (hm : X.mg x = some (.ref f)) (hk : PySem.W.keepIn X.K (.ref f) = true) (hb : Binds X.K fd ps [])
    (ha : JA X Cl E0 (e :: es) mr) (hg : Gl X x := by rfl) (hdb : (x == ("__debug__" : Str)) = false := by decide) (he : starEach (e :: es) X.env = (false, eval e X.env) :: starEach es X.env := by rfl) (hpl : (backTo pos (starEach es X.env)).any (·.1) = false := by rfl) :
    JC X Cl W (.Call (.Name x p) (e :: es) [] pos) (mCallX n m mr) := by
  obtain ⟨t, pr, q⟩ := ha.ex
  refine ⟨_, pe_callS F hr hg hm hk hb (fun σ => passAt tk σ) pr hdb he hpl, fun β H σ s st Q hr hs h => ?_⟩
  refine q β H σ s st _ hr hs ?_
  simp only [mCallX] at h
  cases ei : mr s st with
  | stuck => rw [ei] at h; exact h
  | exc c fs st1 => rw [ei] at h; exact h.elim
  | ok ws st1 =>
    rw [ei] at h
    intro β1 H1 vs e1 hr1 rv
    simp only at h
    split at h
    · rename_i hn
      exact ⟨by rw [← rv.length]; exact hn, β1, ws, st1, hr1, rv, PoG.ext e1 h⟩
    · exact h.elim
/-- the reading of a try's body, a single statement -/
def tBody (K : PySem.W.Frag) (Cl : Nat → Addr) (m : MS) (W : WX) : TS := fun D σ H => ∃ β s st, HR K Cl β H st ∧ SR K β H s σ ∧ PoS K Cl (WE W σ) D β H (m s st)
structure JB (X : Cx) (Cl : Nat → Addr) (W : WX) (es : List Stmt) (m : MS) : Prop where
  ps : PSs X es (tBody X.K Cl m W)
theorem pss_imp {X : Cx} {es : List Stmt} {t u : TS} (h : PSs X es t) (k : ∀ D σ H, u D σ H → t D σ H) : PSs X es u := ⟨fun pins s σ H D I q => h.run pins s σ H D I (k D σ H q)⟩
section
variable {X : Cx} {Cl : Nat → Addr} {W : WX} {e : Expr} {m : ME} {pos : Pos}
theorem jb_ret (h : JC X Cl W e m) : JB X Cl W [.Return (some e) pos] (mRet m) := by
  obtain ⟨t, p, q⟩ := h.ex
  refine ⟨pss_imp (pss_one (ps_ret p)) fun D σ H ⟨β, s, st, hr, hs, h⟩ => q β H σ s st _ hr hs ?_⟩
  exact h.run fun w st1 β1 H1 v _ e1 hr1 rv h1 => h1 β1 H1 v (Ext.refl _ _ _) hr1 rv
theorem jb_expr (h : JC X Cl W e m) (hsw : swapsWith e none pos.line X.env = pure false := by rfl) : JB X Cl W [.Expr e pos] (mDrop m) := by
  obtain ⟨t, p, q⟩ := h.ex
  refine ⟨pss_imp (pss_one (ps_expr p hsw)) fun D σ H ⟨β, s, st, hr, hs, h⟩ => q β H σ s st _ hr hs ?_⟩
  exact h.run fun w st1 β1 H1 v _ e1 hr1 rv h1 => PoS.val h1 hr1 (hs.ext e1)
theorem jb_set (i : Nat) {x : Str} {pos' : Pos} (hN : X.N.Nodup) (h : JC X Cl W e m) (hi : X.N[i]? = some x := by rfl) (hx : Loc X.env.scope x := by first | exact .inl rfl | exact .inr rfl) (hsw : swapsWith e (some (.Name x pos')) pos.line X.env = pure false := by rfl) (hf : X.fn x = true ∨ X.env.scope.names.lookup x = some .local := by first | exact .inl rfl | exact .inr rfl) :
    JB X Cl W [.Assign [.Name x pos'] e pos] (mAsg m (mGN i)) := by
  obtain ⟨t, p, q⟩ := h.ex
  refine ⟨pss_imp (pss_one (ps_set hN hi hx p hsw hf)) fun D σ H ⟨β, s, st, hr, hs, h⟩ => q β H σ s st _ hr hs ?_⟩
  exact h.run fun w st1 β1 H1 v _ e1 hr1 rv h1 => PoS.val h1 hr1 ((hs.ext e1).set rv)
end
/-! ### try: one call / except X: suite -/
/-- which errors a clause takes -/
def tabN : Nat → Option Bool := fun _ => none
def tabC (c : Nat) (b : Bool) (r : Nat → Option Bool) : Nat → Option Bool := fun n => if n = c then some b else r n
theorem tabN_ok {K : PySem.W.Frag} {Cl : Nat → Addr} {hc : Nat} : ∀ c b, tabN c = some b → PySem.W.exmOne K (.ref (Cl c)) (.ref (Cl hc)) = some b := fun c b h => by cases h
theorem tabC_ok {K : PySem.W.Frag} {Cl : Nat → Addr} {hc c0 : Nat} {b0 : Bool} {r : Nat → Option Bool} (h0 : PySem.W.exmOne K (.ref (Cl c0)) (.ref (Cl hc)) = some b0) (hr : ∀ c b, r c = some b → PySem.W.exmOne K (.ref (Cl c)) (.ref (Cl hc)) = some b) : ∀ c b, tabC c0 b0 r c = some b → PySem.W.exmOne K (.ref (Cl c)) (.ref (Cl hc)) = some b := fun c b h => by
  unfold tabC at h
  split at h
  · rename_i e
    subst e
    cases h
    exact h0
  · exact hr c b h
/-- a suite that raises is not served -/
@[simp] def calmS : SO → SO
  | .exc _ _ _ => .stuck
  | o => o
@[simp] def mTry1 (body : MS) (sub : Nat → Option Bool) (suite : MS) : MS := fun s st => match body s st with
  | .exc c fs st1 => match sub c with
    | some true => calmS (suite s st1)
    | some false => .exc c fs st1
    | none => .stuck
  | o => o
theorem js_try1 {X : Cx} {Cl : Nat → Addr} {E : XK} {hc : Nat} {x : Str} {body suite : List Stmt} {b₀ : Stmt} {np pos pos' : Pos} {mb ms : MS} {sub : Nat → Option Bool} (hm : X.mg x = some (.ref (Cl hc))) (tk : Takes X (fun cls d _ H => E cls d H))
    (hb : ∀ (W : WX) (pn : List (Addr × Obj)) (xe : Value → Shared → Prop), Takes (X.tr pn xe) W → JB (X.tr pn xe) Cl W body mb)
    (hsu : ∀ (a : Addr) (oe : Obj) (pn : List (Addr × Obj)), JSs (X.suite a ((a, oe) :: pn)) Cl E0 (b₀ :: suite) ms)
    (hsub : ∀ c b, sub c = some b → PySem.W.exmOne X.K (.ref (Cl c)) (.ref (Cl hc)) = some b)
    (hs : X.stack = X.env :: X.outer := by rfl) (hf : X.env.frame = some X.env.locals := by rfl) (hg : Gl X x := by rfl) (hdb : (x == ("__debug__" : Str)) = false := by decide) :
    JS X Cl E (.Try body [.ExceptHandler (some (.Name x np)) none (b₀ :: suite) pos'] [] [] pos) (mTry1 mb sub ms) := by
  refine ⟨_, ps_try_only (tb := fun W => tBody X.K Cl mb W) (ts := fun _ _ _ D σ H => ∃ β s st, HR X.K Cl β H st ∧ SR X.K β H s σ ∧ PoS X.K Cl E0 D β H (ms s st)) hs hf ⟨hg, hdb, .inl hm⟩ tk (fun W pn xe t _ => (hb W pn xe t).ps) (fun a oe cls d pn _ _ => ?_), fun β H σ s st D hr hs h => ⟨β, s, st, hr, hs, ?_⟩⟩
  · obtain ⟨t, p, q⟩ := (hsu a oe pn).ex
    exact pss_imp p fun D σ H ⟨β, s, st, hr, hs, h⟩ => q β H σ s st D hr hs h
  · simp only [mTry1] at h
    cases ei : mb s st with
    | exc c fs st1 =>
      rw [ei] at h
      simp only at h
      intro β1 H1 d e1 hr1 rx
      cases es : sub c with
      | none => rw [es] at h; exact h.elim
      | some b =>
        rw [es] at h
        refine ⟨b, hsub c b es, fun hb a ha => ?_, fun hb => ?_⟩
        · subst hb
          have h2 := PoS.ext e1 h
          refine ⟨β1, s, st1, hr1, hs.ext e1, ?_⟩
          simp only at h2
          cases eo : ms s st1 with
          | exc c2 fs2 st2 => rw [eo] at h2; exact h2.elim
          | nx s2 st2 => rw [eo] at h2; exact h2
          | rt w st2 => rw [eo] at h2; exact h2
          | bk s2 st2 => rw [eo] at h2; exact h2
          | ct s2 st2 => rw [eo] at h2; exact h2
          | stuck => rw [eo] at h2; exact h2
        · subst hb
          exact h β1 H1 d e1 hr1 rx
    | nx s1 st1 => rw [ei] at h; exact h
    | rt w st1 => rw [ei] at h; exact h
    | bk s1 st1 => rw [ei] at h; exact h
    | ct s1 st1 => rw [ei] at h; exact h
    | stuck => rw [ei] at h; exact h
/-! ### statement by statement -/
theorem defX_rt {n k : Nat} {body : MS} {ws : List W} {st st' : Sto} {w : W} (hl : ws.length = n) (h : body (ws.map some ++ List.replicate k none) st = .rt w st') : mDefX n k body ws st = .ok w st' := by
  simp only [mDefX, hl, if_true, h]
theorem defX_nx {n k : Nat} {body : MS} {ws : List W} {st st' : Sto} {s' : Slo} (hl : ws.length = n) (h : body (ws.map some ++ List.replicate k none) st = .nx s' st') : mDefX n k body ws st = .ok .non st' := by
  simp only [mDefX, hl, if_true, h]
theorem defX_exc {n k c : Nat} {fs : Fl} {body : MS} {ws : List W} {st st' : Sto} (hl : ws.length = n) (h : body (ws.map some ++ List.replicate k none) st = .exc c fs st') : mDefX n k body ws st = .exc c fs st' := by
  simp only [mDefX, hl, if_true, h]
theorem seq_exc {a b : MS} {s : Slo} {st st1 : Sto} {c : Nat} {fs : Fl} (h : a s st = .exc c fs st1) : mSeq a b s st = .exc c fs st1 := by
  simp only [mSeq, h, SO.then]
end Mi
/-! The mirror layer, part Y: try with several clauses, named or not; errors with fields of their own; what a suite asks of its error. -/
namespace Mi
open PySem L2
open PyProof.Rows hiding St

/-! ### the clauses of a try -/
/-- an error stands caught in this frame; h3 is the heap at which its clauses are asked -/
structure Got (X : Cx) (pins : List (Addr × Obj)) (σ : St) (H : Hp) (s : Shared) (a : Addr) (cls : Value) (d : Option Addr) (B : Heap) (sI : Shared) (h3 : Heap) : Prop where
  inv : Inv X pins σ H sI
  low : ∀ b o, sI.heap.get? b = some o → b ∉ frs X.stack → B.get? b = some o
  up : sI.heap.UpToSlots h3
  os : s.os = sI.os
  ag : AllBare s.gens
  fl : HandSPX.FlyingZ B (X.env :: X.outer) a (Zc cls d) h3
  na : H a = none
theorem Got.enter {X : Cx} {pins : List (Addr × Obj)} {σ : St} {H : Hp} {s sI : Shared} {a : Addr} {cls : Value} {d : Option Addr} {B h3 h4 : Heap} (G : Got X pins σ H s a cls d B sI h3) (hf : X.env.frame = some X.env.locals)
    (fl : HandSPX.FlyingZ B (X.env :: X.outer) a (Zc cls d) h4) (up : h3.UpToSlots h4) : ∃ oe, Zc cls d oe ∧ (∃ vs, oe.data = .fields vs) ∧ h4.get? a = some oe ∧ Inv X pins σ H { s with heap := h4 } ∧ Inv (X.suite a ((a, oe) :: (X.pn ++ pins))) [] σ H { s with heap := h4 } := by
  have J : Inv X pins σ H { s with heap := h4 } := G.inv.landed G.low fl.1 (G.up.trans up) G.os G.ag
  obtain ⟨oe, vs, he, hz, hd⟩ := fl.there
  have out : a ∉ frs (X.env :: X.outer) := fun hm => by
    obtain ⟨_, o2, g2, nf⟩ := fl.2.2.1.mem hm
    have : oe = o2 := Option.some.inj (he.symm.trans g2)
    exact nf vs (this ▸ hd)
  have n1 : a ≠ X.env.locals := fun z => out (List.mem_filterMap.mpr ⟨X.env, List.mem_cons_self, hf.trans (congrArg some z.symm)⟩)
  have n2 : a ∉ X.fs := fun hm => by
    obtain ⟨e2, m2, q2⟩ := List.mem_filterMap.mp hm
    exact out (List.mem_filterMap.mpr ⟨e2, List.mem_cons_of_mem _ m2, q2⟩)
  exact ⟨oe, hz, ⟨vs, hd⟩, he, J, J.suite he hd G.na n1 n2⟩
/-- what is wished of a suite's ends: its name goes -/
def Ends.drop (D : Ends) : Option Nat → Ends
  | none => D
  | some i => { nx := fun σ' H' => D.nx (σ'.set i none) H', rt := D.rt, bk := fun σ' H' => D.bk (σ'.set i none) H', ct := fun σ' H' => D.ct (σ'.set i none) H' }
def bindE (a : Addr) (σ : St) : Option Nat → St
  | none => σ
  | some i => σ.set i (some (.ref a))
abbrev Cls1 := Value × Option Nat × (Addr → Value → Option Addr → TS)
/-- what the clauses wish of an error, one after the other -/
def wList (K : PySem.W.Frag) (Wout : WX) (D : Ends) : List Cls1 → WX
  | [] => Wout
  | (c, i, ts) :: r => fun cls d σ H => ∃ b, PySem.W.exmOne K cls c = some b ∧ (b = true → ∀ a, H a = none → ts a cls d (Ends.drop D i) (bindE a σ i) H) ∧ (b = false → wList K Wout D r cls d σ H)
inductive Cla (X : Cx) : List ExceptHandler → List Cls1 → Prop
  | nil : Cla X [] []
  | cons0 {x : Str} {c : Value} {ts : Addr → Value → Option Addr → TS} {b₀ : Stmt} {suite : List Stmt} {np pos' : Pos} {hds : List ExceptHandler} {l : List Cls1} (hc : Names X x c)
      (hsu : ∀ (a : Addr) (oe : Obj) (cls : Value) (d : Option Addr) (pn : List (Addr × Obj)), Zc cls d oe → (∃ vs, oe.data = .fields vs) → PSs (X.suite a ((a, oe) :: pn)) (b₀ :: suite) (ts a cls d)) (r : Cla X hds l) :
      Cla X (.ExceptHandler (some (.Name x np)) none (b₀ :: suite) pos' :: hds) ((c, none, ts) :: l)
  | cons1 {x n : Str} {i : Nat} {c : Value} {ts : Addr → Value → Option Addr → TS} {b₀ : Stmt} {suite : List Stmt} {np pos' : Pos} {hds : List ExceptHandler} {l : List Cls1} (hc : Names X x c) (hi : X.N[i]? = some n) (hl : X.env.kindOf n = some .local)
      (hsu : ∀ (a : Addr) (oe : Obj) (cls : Value) (d : Option Addr) (pn : List (Addr × Obj)), Zc cls d oe → (∃ vs, oe.data = .fields vs) → PSs (X.suite a ((a, oe) :: pn)) (b₀ :: suite) (ts a cls d)) (r : Cla X hds l) :
      Cla X (.ExceptHandler (some (.Name x np)) (some n) (b₀ :: suite) pos' :: hds) ((c, some i, ts) :: l)
section
variable {X : Cx} {pins : List (Addr × Obj)} {σ : St} {H : Hp} {s sI : Shared} {a : Addr} {cls : Value} {d : Option Addr} {B h3 : Heap} {D : Ends} {Wout : WX}
/-- a clause's class is looked up and asked -/
theorem Got.asks (G : Got X pins σ H s a cls d B sI h3) (hf : X.env.frame = some X.env.locals) {x : Str} {c : Value} {np : Pos} {b : Bool} (hc : Names X x c) (hb : PySem.W.exmOne X.K cls c = some b) {Q : Bool → Shared → Prop} {E : Value → Shared → Prop}
    (hq : Q b { s with heap := h3 }) : wpAny (model X.prog X.w) (X.A.mark (some (.ref a))) (do let v ← eval (.Name x np) X.env; excMatches (.ref a) v) Q E { s with heap := h3 } := by
  obtain ⟨oe, hz, hd, he, J, S⟩ := G.enter hf G.fl (fun b o e n => ⟨o.slots, e⟩)
  have ty : PySem.W.Looks (model X.prog X.w) h3 (typeOf (.ref a)) cls := fun A Q E s2 keep k => wpAny_typeOf_ref (keep _ _ he) (by rw [hz.1]; exact k)
  have look := PySem.W.exm_one (M := model X.prog X.w) J.kIn ty hb
  refine wpAny_bind ?_
  obtain ⟨hg, hdbg, hm | ⟨hm, hv, hnn⟩⟩ := hc
  · exact ld_glob (X := X.suite a ((a, oe) :: (X.pn ++ pins))) S hg hm (look.here hq) hdbg
  · exact ld_blt (X := X.suite a ((a, oe) :: (X.pn ++ pins))) S hg hm hv (look.here hq) hnn hdbg
theorem Got.asks' (G : Got X pins σ H s a cls d B sI h3) (hf : X.env.frame = some X.env.locals) {x : Str} {c : Value} {np : Pos} (hc : Names X x c) {Q : Value → Shared → Prop} {E : Value → Shared → Prop} (hq : Q c { s with heap := h3 }) :
    wpAny (model X.prog X.w) (X.A.mark (some (.ref a))) (eval (.Name x np) X.env) Q E { s with heap := h3 } := by
  obtain ⟨oe, hz, hd, he, J, S⟩ := G.enter hf G.fl (fun b o e n => ⟨o.slots, e⟩)
  obtain ⟨hg, hdbg, hm | ⟨hm, hv, hnn⟩⟩ := hc
  · exact ld_glob (X := X.suite a ((a, oe) :: (X.pn ++ pins))) S hg hm hq hdbg
  · exact ld_blt (X := X.suite a ((a, oe) :: (X.pn ++ pins))) S hg hm hv hq hnn hdbg
theorem Got.look (G : Got X pins σ H s a cls d B sI h3) (hf : X.env.frame = some X.env.locals) {c : Value} {b : Bool} (hb : PySem.W.exmOne X.K cls c = some b) : PySem.W.Looks (model X.prog X.w) h3 (excMatches (.ref a) c) b := by
  obtain ⟨oe, hz, hd, he, J, S⟩ := G.enter hf G.fl (fun b o e n => ⟨o.slots, e⟩)
  exact PySem.W.exm_one (M := model X.prog X.w) J.kIn (fun A Q E s2 keep k => wpAny_typeOf_ref (keep _ _ he) (by rw [hz.1]; exact k)) hb
/-- no clause is left: the error flies on -/
theorem Got.none_left (G : Got X pins σ H s a cls d B sI h3) (hs : X.stack = X.env :: X.outer) (hf : X.env.frame = some X.env.locals) (tk : Takes X Wout) (w : Wout cls d σ H) :
    wpAny (model X.prog X.w) X.A (handleBy (.ref a) X.env []) (SP X pins D) X.xe { s with heap := h3 } := by
  refine wpAny_handleBy_nil ?_
  obtain ⟨-, -, -, oe, vs, T, oT, ts, he, -, hd, h1, -⟩ := id G.fl
  have off : wpAny (model X.prog X.w) X.A (setFlight (.ref a) X.env.frame) (fun _ s4 => wpAny (model X.prog X.w) X.A (throw (.ref a) : Sem Flow) (SP X pins D) X.xe s4) X.xe { s with heap := h3 } := by
    rw [hf]
    exact HandSPX.setFlight_upZ G.fl fun h4 held up4 => wpAny_throw (tk _ _ ⟨a, B, sI, pins, σ, H, cls, d, rfl, G.inv, G.low, G.up.trans up4, .inr (.inr (hs ▸ held)), G.na, G.os, G.ag, w⟩)
  unfold PySem.passOn
  refine wpAny_bind (wpAny_field he hd h1 ?_)
  rw [if_neg (by simp)]
  first
    | exact wpAny_bind (wpAny_pure (wpAny_bind off))
    | exact wpAny_bind off
theorem Got.run (G : Got X pins σ H s a cls d B sI h3) (hs : X.stack = X.env :: X.outer) (hf : X.env.frame = some X.env.locals) (hN : X.N.Nodup) (tk : Takes X Wout) {hds : List ExceptHandler} {l : List Cls1} (hk : Cla X hds l) (w : wList X.K Wout D l cls d σ H) :
    wpAny (model X.prog X.w) X.A (handleBy (.ref a) X.env hds) (SP X pins D) X.xe { s with heap := h3 } := by
  induction hk with
  | nil => exact G.none_left hs hf tk w
  | cons0 hc hsu r ih =>
    obtain ⟨b, hb, yes, no⟩ := w
    refine wpAny_handleBy_cons (codeAny_handlers_test ?_) (fun q => nomatch q)
    refine G.asks' hf hc ((G.look hf hb).here ?_)
    cases b with
    | false => exact ih (no rfl)
    | true =>
      refine codeAny_handlers_suite (HandSPX.lands_againZ G.fl fun h4 fl4 up4 => ?_)
      obtain ⟨oe, hz, hd, -, J, S⟩ := G.enter hf fl4 up4
      refine wpAny_mono ((hsu a oe cls d (X.pn ++ pins) hz hd).run [] _ _ H D S (yes rfl a G.na)) (fun f s6 e6 => ?_) (fun _ _ z => z.elim)
      cases f with
      | ret u => obtain ⟨v, σ6, H6, I6, r6, q6⟩ := e6; exact ⟨v, σ6, H6, I6.unsuite G.inv.ok, r6, q6⟩
      | _ => obtain ⟨σ6, H6, I6, q6⟩ := e6; exact ⟨σ6, H6, I6.unsuite G.inv.ok, q6⟩
  | @cons1 x n i c ts b₀ suite np pos' hds2 l2 hc hi hl hsu r ih =>
    obtain ⟨b, hb, yes, no⟩ := w
    refine wpAny_handleBy_cons (codeAny_handlers_test ?_) (fun q => nomatch q)
    refine G.asks' hf hc ((G.look hf hb).here ?_)
    cases b with
    | false => exact ih (no rfl)
    | true =>
      refine codeAny_handlers_suite_as (HandSPX.lands_againZ G.fl fun h4 fl4 up4 => ?_)
      obtain ⟨oe, hz, hd, -, J, S⟩ := G.enter hf fl4 up4
      refine store_ok (X := X.suite a ((a, oe) :: (X.pn ++ pins))) (v := .ref a) S hN hi (.inl hl) rfl (fun s5 S5 => ?_) (.inr hl)
      refine wpAny_mono ((hsu a oe cls d (X.pn ++ pins) hz hd).run [] _ _ H _ S5 (yes rfl a G.na)) (fun f s6 e6 => ?_) (fun _ _ z => z.elim)
      have gone : ∀ {σ6 : St} {H6 : Hp} {Q : Shared → Prop}, Inv (X.suite a ((a, oe) :: (X.pn ++ pins))) [] σ6 H6 s6 → (∀ s7, Inv X pins (σ6.set i none) H6 s7 → Q s7) →
          wpAny (model X.prog X.w) X.A (do bindName X.env n .none; unbindBehindTheSuite X.env n pos') (fun _ s7 => Q s7) X.xe s6 := fun I6 k => gone_ok (I6.unsuite G.inv.ok) hN hi hl k
      cases f with
      | ret u => obtain ⟨v, σ6, H6, I6, r6, q6⟩ := e6; exact gone I6 fun s7 J7 => ⟨v, _, _, J7, r6, q6⟩
      | next => obtain ⟨σ6, H6, I6, q6⟩ := e6; exact gone I6 fun s7 J7 => ⟨_, _, J7, q6⟩
      | brk => obtain ⟨σ6, H6, I6, q6⟩ := e6; exact gone I6 fun s7 J7 => ⟨_, _, J7, q6⟩
      | cont => obtain ⟨σ6, H6, I6, q6⟩ := e6; exact gone I6 fun s7 J7 => ⟨_, _, J7, q6⟩
end
theorem ps_tryC {X : Cx} {body : List Stmt} {h₀ : ExceptHandler} {hds : List ExceptHandler} {l : List Cls1} {pos : Pos} {tb : WX → TS} {Wout : WX} (hs : X.stack = X.env :: X.outer) (hf : X.env.frame = some X.env.locals) (hN : X.N.Nodup) (tk : Takes X Wout)
    (hb : ∀ (W : WX) (pn : List (Addr × Obj)) (xe : Value → Shared → Prop), Takes (X.tr pn xe) W → PassesOwn (model X.prog X.w) X.A X.env xe → PSs (X.tr pn xe) body (tb W))
    (hh : Cla X (h₀ :: hds) l) : PS X (.Try body (h₀ :: hds) [] [] pos) (fun D σ H => tb (wList X.K Wout D l) D σ H) := by
  refine ⟨fun pins s σ H D I h => wpAny_Try_except ?_⟩
  have ok := I.ok
  have hfr : X.A.frames = some (X.env :: X.outer) := ok.frames.trans (congrArg some hs)
  have run := (hb (wList X.K Wout D l) (X.pn ++ pins) (fun e s₁ => wpAny (model X.prog X.w) X.A (noteFrame e X.env) (fun _ s₂ => wpAny (model X.prog X.w) X.A (setFlight e none) (fun _ s₃ =>
    wpAny (model X.prog X.w) X.A (handleBy e X.env (h₀ :: hds)) (SP X pins D) X.xe s₃) X.xe s₂) X.xe s₁) (fun u s' xx => ?_) PassesOwn.looking).run [] s σ H D (I.toTry _) h
  · refine wpAny_mono run (fun f s1 e1 => ?_) (fun e s1 z => z)
    cases f with
    | ret u => obtain ⟨v, σ1, H1, I1, r1, q1⟩ := e1; exact ⟨v, σ1, H1, I1.ofTry ok, r1, q1⟩
    | next => obtain ⟨σ1, H1, I1, q1⟩ := e1; exact wpAny_execs_nil ⟨σ1, H1, I1.ofTry ok, q1⟩
    | brk => obtain ⟨σ1, H1, I1, q1⟩ := e1; exact ⟨σ1, H1, I1.ofTry ok, q1⟩
    | cont => obtain ⟨σ1, H1, I1, q1⟩ := e1; exact ⟨σ1, H1, I1.ofTry ok, q1⟩
  · obtain ⟨a, B, sI, pins2, σ1, H1, cls, d, rfl, I1, low, up, sky, na, os, ag, w⟩ := xx
    have sky2 : Sky B (X.env :: X.outer) a (Zc cls d) X.env.locals s'.heap := hs ▸ sky
    exact Sky.land Zc.steady hfr hf sky2 fun h3 fl3 up3 => Got.run ⟨I1.ofTry ok, low, up.trans up3, os, ag, fl3, na⟩ hs hf hN tk hh w
end Mi
/-! The mirror layer, part Z: named clauses: what a suite asks of its error; errors with fields. -/
namespace Mi
open PySem L2
/-- the error in hand: slot i holds it, its fields are fs -/
def Hand (K : PySem.W.Frag) (β : Bt) (H : Hp) (σ : St) (i : Nat) (a : Addr) (fs : Fl) (d : Option Addr) : Prop :=
  σ[i]? = some (some (.ref a)) ∧ ((fs = [] ∧ d = none) ∨ ∃ dd gs, d = some dd ∧ dd ∈ β.pr ∧ H dd = some (.xd gs) ∧ RF K β H fs gs)
theorem Hand.ext {K : PySem.W.Frag} {β β' : Bt} {H H' : Hp} {σ : St} {i : Nat} {a : Addr} {fs : Fl} {d : Option Addr} (h : Hand K β H σ i a fs d) (e : Ext K β H β' H') : Hand K β' H' σ i a fs d := by
  refine ⟨h.1, h.2.imp (fun x => x) ?_⟩
  rintro ⟨dd, gs, h1, h2, h3, h4⟩
  obtain ⟨q1, q2⟩ := e.prot dd h2 _ h3
  exact ⟨dd, gs, h1, q1, q2, h4.ext e⟩
structure QE (X : Cx) (Cl : Nat → Addr) (i : Nat) (a : Addr) (fs : Fl) (d : Option Addr) (e : Expr) (m : ME) : Prop where
  ex : ∃ t, PE X e t ∧ ∀ β H σ s st Q, HR X.K Cl β H st → SR X.K β H s σ → Hand X.K β H σ i a fs d → Po X.K Cl E0 β H Q (m s st) → t σ H Q
structure QA (X : Cx) (Cl : Nat → Addr) (i : Nat) (a : Addr) (fs : Fl) (d : Option Addr) (es : List Expr) (m : MA) : Prop where
  ex : ∃ t, PA X es t ∧ ∀ β H σ s st Q, HR X.K Cl β H st → SR X.K β H s σ → Hand X.K β H σ i a fs d → PoL X.K Cl E0 β H Q (m s st) → t σ H Q
structure QT (X : Cx) (Cl : Nat → Addr) (i : Nat) (a : Addr) (fs : Fl) (d : Option Addr) (e : Expr) (m : MT) : Prop where
  ex : ∃ t, PT X e t ∧ ∀ β H σ s st Q, HR X.K Cl β H st → SR X.K β H s σ → Hand X.K β H σ i a fs d → PoB X.K Cl E0 β H Q (m s st) → t σ H Q
structure QW (X : Cx) (Cl : Nat → Addr) (i : Nat) (a : Addr) (fs : Fl) (d : Option Addr) (e : Expr) (m : MT) : Prop where
  ex : ∃ t, PW X e t ∧ ∀ β H σ s st Q, HR X.K Cl β H st → SR X.K β H s σ → Hand X.K β H σ i a fs d → PoB X.K Cl E0 β H Q (m s st) → t σ H Q
structure QS (X : Cx) (Cl : Nat → Addr) (i : Nat) (a : Addr) (fs : Fl) (d : Option Addr) (es : List Stmt) (m : MS) : Prop where
  ex : ∃ t, PSs X es t ∧ ∀ β H σ s st D, HR X.K Cl β H st → SR X.K β H s σ → Hand X.K β H σ i a fs d → PoS X.K Cl E0 D β H (m s st) → t D σ H
section
variable {X : Cx} {Cl : Nat → Addr} {i : Nat} {a : Addr} {fs : Fl} {d : Option Addr} {pos : Pos}
theorem qe_of {e : Expr} {m : ME} (h : JE X Cl E0 e m) : QE X Cl i a fs d e m := by
  obtain ⟨t, p, q⟩ := h.ex
  exact ⟨t, p, fun β H σ s st Q hr hs _ h => q β H σ s st Q hr hs h⟩
theorem qe_cmp {x y : Expr} {mx my : ME} {op : CmpOp} {r : R2} {m : M2} (ho : OpR X (compareOp op) r ∧ SOp X.K Cl E0 r m) (hx : QE X Cl i a fs d x mx) (hy : QE X Cl i a fs d y my) (hm : behindInMarks op y = false) : QE X Cl i a fs d (.Compare x [op] [y] pos) (mOp m mx my) := by
  obtain ⟨_, p1, q1⟩ := hx.ex
  obtain ⟨_, p2, q2⟩ := hy.ex
  refine ⟨_, pe_cmpR ho.1 p1 p2 hm, fun β H σ s st Q hr hs hh h => q1 β H σ s st _ hr hs hh (h.bind fun x st1 β1 H1 v _ e1 hr1 rx h1 => q2 β1 H1 σ s st1 _ hr1 (hs.ext e1) (hh.ext e1) (h1.bind fun y st2 β2 H2 u _ e2 hr2 ry h2 => ?_))⟩
  exact ho.2 β2 H2 st2 x y v u Q hr2 (rx.ext e2) ry h2
theorem qe_one {op : BoolOp} {x : Expr} {mx : ME} (h : QE X Cl i a fs d x mx) : QE X Cl i a fs d (.BoolOp op [x] pos) mx := by
  obtain ⟨t, p, q⟩ := h.ex
  exact ⟨t, pe_one p, q⟩
theorem qe_and {x y : Expr} {rest : List Expr} {mx my : ME} (hx : QE X Cl i a fs d x mx) (hy : QE X Cl i a fs d (.BoolOp .And (y :: rest) pos) my) : QE X Cl i a fs d (.BoolOp .And (x :: y :: rest) pos) (mAndV mx my) := by
  obtain ⟨_, p1, q1⟩ := hx.ex
  obtain ⟨_, p2, q2⟩ := hy.ex
  refine ⟨_, pe_andT p1 p2, fun β H σ s st Q hr hs hh h => q1 β H σ s st _ hr hs hh (h.bind fun x st1 β1 H1 v _ e1 hr1 rx h1 => ?_)⟩
  split at h1
  · rename_i e
    exact ⟨true, truth_ok hr1 rx e, by rw [if_pos rfl]; exact q2 β1 H1 σ s st1 Q hr1 (hs.ext e1) (hh.ext e1) h1⟩
  · rename_i e
    exact ⟨false, truth_ok hr1 rx e, by rw [if_neg Bool.false_ne_true]; exact PoG.val h1 hr1 rx⟩
  · exact h1.elim
theorem qa_nil : QA X Cl i a fs d [] mNil := ⟨_, pa_nil, fun β H σ s st Q hr hs _ h => PoG.val h hr .nil⟩
theorem qa_cons {e : Expr} {es : List Expr} {ma : ME} {mr : MA} (ha : QE X Cl i a fs d e ma) (hr : QA X Cl i a fs d es mr) (hs : starEach (e :: es) X.env = (false, eval e X.env) :: starEach es X.env := by rfl) : QA X Cl i a fs d (e :: es) (mCons ma mr) := by
  obtain ⟨_, p1, q1⟩ := ha.ex
  obtain ⟨_, p2, q2⟩ := hr.ex
  refine ⟨_, pa_cons p1 p2 hs, fun β H σ s st Q hr hs hh h => q1 β H σ s st _ hr hs hh (h.bind fun x st1 β1 H1 v _ e1 hr1 rx h1 => q2 β1 H1 σ s st1 _ hr1 (hs.ext e1) (hh.ext e1) (h1.bind fun y st2 β2 H2 u _ e2 hr2 ry h2 => ?_))⟩
  exact PoG.val h2 hr2 (.cons (rx.ext e2) ry)
theorem qe_tup {k : Nat} {es : List Expr} {mr : MA} (h : QA X Cl i a fs d es mr) : QE X Cl i a fs d (.Tuple es k pos) (mTup mr) := by
  obtain ⟨_, p, q⟩ := h.ex
  refine ⟨_, pe_tup p, fun β H σ s st Q hr hs hh h => q β H σ s st _ hr hs hh (h.bind fun x st1 β1 H1 v _ e1 hr1 rx h1 => ?_)⟩
  split at h1
  · rename_i hz
    exact ⟨by rw [← rx.length]; exact hz, fun l hl => Po.tup h1 hr1 hl rx⟩
  · exact h1.elim
theorem qt_tru {e : Expr} {m : ME} (h : QE X Cl i a fs d e m) (he : ∀ whole, isTrue e X.env whole = (do let v ← whole; standAt e.pos; holding [v] (truthy v)) := by intro _; rfl) : QT X Cl i a fs d e (mTru m) := by
  obtain ⟨t, p1, q1⟩ := h.ex
  refine ⟨_, pt_truth p1 he, fun β H σ s st Q hr hs hh hp => q1 β H σ s st _ hr hs hh (hp.bind fun x st1 β1 H1 v _ e1 hr1 rx h1 => ?_)⟩
  split at h1
  · rename_i k e
    exact ⟨k, truth_ok hr1 rx e, PoG.val h1 hr1 rfl⟩
  · exact h1.elim
theorem qt_w {e : Expr} {m : MT} (h : QW X Cl i a fs d e m) : QT X Cl i a fs d e m := by
  obtain ⟨t, p, q⟩ := h.ex
  exact ⟨t, p.pt, q⟩
theorem qw_and1 {e : Expr} {m : MT} (h : QT X Cl i a fs d e m) : QW X Cl i a fs d (.BoolOp .And [e] pos) m := by
  obtain ⟨t, p, q⟩ := h.ex
  exact ⟨t, pw_and1 p, q⟩
theorem qw_and {x y : Expr} {rest : List Expr} {mx my : MT} (ha : QT X Cl i a fs d x mx) (hb : QW X Cl i a fs d (.BoolOp .And (y :: rest) pos) my) : QW X Cl i a fs d (.BoolOp .And (x :: y :: rest) pos) (mTAnd mx my) := by
  obtain ⟨_, p1, q1⟩ := ha.ex
  obtain ⟨_, p2, q2⟩ := hb.ex
  refine ⟨_, pw_and p1 p2, fun β H σ s st Q hr hs hh h => q1 β H σ s st _ hr hs hh (h.bind fun x st1 β1 H1 v _ e1 hr1 rx h1 => ?_)⟩
  cases rx
  cases x with
  | true => rw [if_pos rfl] at h1 ⊢; exact q2 β1 H1 σ s st1 Q hr1 (hs.ext e1) (hh.ext e1) h1
  | false => rw [if_neg Bool.false_ne_true] at h1 ⊢; exact PoG.val h1 hr1 rfl
theorem qs_of {es : List Stmt} {m : MS} (h : JSs X Cl E0 es m) : QS X Cl i a fs d es m := by
  obtain ⟨t, p, q⟩ := h.ex
  exact ⟨t, p, fun β H σ s st D hr hs _ h => q β H σ s st D hr hs h⟩
theorem qs_ret {e : Expr} {m : ME} (h : QE X Cl i a fs d e m) : QS X Cl i a fs d [.Return (some e) pos] (mRet m) := by
  obtain ⟨_, p, q⟩ := h.ex
  refine ⟨_, pss_one (ps_ret p), fun β H σ s st D hr hs hh h => q β H σ s st _ hr hs hh ?_⟩
  exact h.run fun w st1 β1 H1 v _ e1 hr1 rv h1 => h1 β1 H1 v (Ext.refl _ _ _) hr1 rv
/-- if test: suite, and what follows -/
theorem qs_if {c : Expr} {as rest : List Stmt} {mc : MT} {m1 m2 : MS} (hc : QT X Cl i a fs d c mc) (h1 : JSs X Cl E0 as m1) (h2 : JSs X Cl E0 rest m2) : QS X Cl i a fs d (.If c as [] pos :: rest) (mSeq (mIfS mc m1 mSkip) m2) := by
  obtain ⟨_, p, q⟩ := hc.ex
  obtain ⟨_, p1, q1⟩ := h1.ex
  obtain ⟨w2, p2, q2⟩ := h2.ex
  obtain ⟨_, p0, q0⟩ := (jss_nil (X := X) (Cl := Cl) (E := E0)).ex
  refine ⟨_, pss_cons (ps_if p p1 p0) p2, fun β H σ s st D hr hs hh h => ?_⟩
  refine q β H σ s st _ hr hs hh ?_
  simp only [mSeq, mIfS] at h
  cases e : mc s st with
  | stuck => rw [e] at h; exact h.elim
  | exc c fs2 st1 => rw [e] at h; exact h
  | ok k st1 =>
    rw [e] at h
    intro β1 H1 b e1 hr1 eb
    subst eb
    have h' := PoS.ext e1 h
    have thn : ∀ (o : SO) (t1 : TS), (∀ D', PoS X.K Cl E0 D' β1 H1 o → t1 D' σ H1) → PoS X.K Cl E0 D β1 H1 (o.then m2) → t1 { D with nx := w2 D } σ H1 := fun o t1 k1 k2 => k1 _ (by
      cases o with
      | nx s2 st2 => exact fun β2 H2 σ2 e2 hr2 hs2 => q2 β2 H2 σ2 s2 st2 D hr2 hs2 (PoS.ext e2 k2)
      | rt w2 st2 => exact k2
      | bk s2 st2 => exact k2
      | ct s2 st2 => exact k2
      | exc c fs2 st2 => exact k2
      | stuck => exact k2)
    cases k with
    | true =>
      rw [if_pos rfl]
      exact thn (m1 s st1) _ (fun D' z => q1 β1 H1 σ s st1 D' hr1 (hs.ext e1) z) h'
    | false =>
      rw [if_neg Bool.false_ne_true]
      exact thn (mSkip s st1) _ (fun D' z => q0 β1 H1 σ s st1 D' hr1 (hs.ext e1) z) h'
end
/-! ### isinstance(e, C), e.f -/
theorem kit_ref {K : PySem.W.Frag} {D C : Addr} (hd : PySem.W.hasDictIn K C = true) (ht : PySem.W.typeIn K (.ref C) = some (.type "type")) (hs : PySem.W.subIn K (.ref D) (.ref C) = some true) : PySem.W.kitOne K (.ref D) (.ref C) = some true := by
  unfold PySem.W.kitOne
  split
  · rfl
  · obtain ⟨cd, hc, -⟩ := PySem.W.any_some hd
    have h2 : (PySem.W.clsIn K C).isSome = true := by rw [hc]; rfl
    have h3 : ((PySem.W.clsIn K C).isSome && PySem.W.typeIn K (.ref C) == some (.type "type")) = true := by rw [h2, ht]; rfl
    show (if ((PySem.W.clsIn K C).isSome && PySem.W.typeIn K (.ref C) == some (.type "type")) = true then PySem.W.subIn K (.ref D) (.ref C) else none) = some true
    rw [if_pos h3]
    exact hs
theorem kit_typ {K : PySem.W.Frag} {D : Addr} {T : String} (hm : PySem.W.kitMeta T = true) (hs : PySem.W.subIn K (.ref D) (.type T) = some true) : PySem.W.kitOne K (.ref D) (.type T) = some true := by
  unfold PySem.W.kitOne
  split
  · rfl
  · unfold PySem.W.kitCls
    simp only [hm, if_true]
    exact hs
theorem call_isX {X : Cx} {a D : Addr} {oe : Obj} {d : Option Addr} {pn : List (Addr × Obj)} (T : ExcC X.K D) (hz : Zc (.ref D) d oe) (hf : ∃ vs, oe.data = .fields vs) :
    CallR (X.suite a ((a, oe) :: pn)) (.builtin "isinstance") (fun xs H Q => ∃ (c : V) (cv : Value) (b : Bool), xs = [.ref a, c] ∧ (∀ u, RelV c u → u = cv) ∧ PySem.W.kitOne X.K (.ref D) cv = some b ∧ (d = none ∨ ∃ dd gs, d = some dd ∧ H dd = some (.xd gs)) ∧ Q (.bl b) H) := by
  intro pins s σ H xs us Q I r h
  obtain ⟨c, cv, b, rfl, hcv, e, hd, q⟩ := h
  cases r with
  | cons rx rr =>
    cases rr with
    | cons rt rr =>
      cases rr
      cases rx
      cases hcv _ rt
      obtain ⟨hget, -⟩ := I.pin (a, oe) (List.mem_append_left _ List.mem_cons_self)
      obtain ⟨vs, hv⟩ := hf
      have nc : PySem.W.notCls oe := by unfold PySem.W.notCls; rw [hv] <;> trivial
      obtain ⟨od, J⟩ : ∃ od, PySem.W.InstAt s.heap a oe D od := by
        rcases hd with hd | ⟨dd, gs, hd, hx⟩
        · exact ⟨none, hget, hz.1, nc, by rw [hz.2, hd]; trivial⟩
        · have hx2 : ObjOk X.prog X.w H s.heap dd (.xd gs) := I.hok dd _ hx
          obtain ⟨mA, hns, -⟩ := hx2
          obtain ⟨od, ho, -⟩ := lookIn_ns hns
          exact ⟨some od, hget, hz.1, nc, by rw [hz.2, hd]; exact ho⟩
      obtain ⟨cd, hcd, -⟩ := PySem.W.any_some T.hd
      exact PySem.W.kia_one (PySem.W.kitx_exc (by rw [hcd]; rfl) T.hg T.hk T.hs T.ha T.hn T.ht T.hm) I.kIn J e (fun z => nomatch z) fun tk => ⟨.bl b, H, I.kept (t' := tk) fun _ _ z => z, rfl, q⟩
section
variable {X : Cx} {Cl : Nat → Addr} {i : Nat} {a D : Addr} {oe : Obj} {fs : Fl} {d : Option Addr} {pn : List (Addr × Obj)} {pos p1 p2 p3 : Pos} {x y : Str}
theorem hand_some {K : PySem.W.Frag} {β : Bt} {H : Hp} {σ : St} (h : Hand K β H σ i a fs d) : d = none ∨ ∃ dd gs, d = some dd ∧ H dd = some (.xd gs) := h.2.imp (fun z => z.2) fun ⟨dd, gs, h1, _, h3, _⟩ => ⟨dd, gs, h1, h3⟩
theorem qe_is {c : V} {cv : Value} {b : Bool} {e2 : Expr} (T : ExcC X.K D) (hz : Zc (.ref D) d oe) (hf : ∃ vs, oe.data = .fields vs) (hm : X.mg "isinstance" = none) (hv : PE (X.suite a ((a, oe) :: pn)) e2 (tC c)) (hcv : ∀ u, RelV c u → u = cv) (hk : PySem.W.kitOne X.K (.ref D) cv = some b)
    (hN : X.N[i]? = some x := by rfl) (hvis : Vis X.env.scope x := by first | exact Or.inl rfl | exact Or.inr (Or.inl rfl) | exact Or.inr (Or.inr rfl)) (hd : (x == ("__debug__" : Str)) = false := by decide) (hcd : (x == ("__classdict__" : Str)) = false := by decide) (hg : Gl X "isinstance" := by rfl)
    (he : starEach [.Name x p1, e2] (X.suite a ((a, oe) :: pn)).env = (false, eval (.Name x p1) (X.suite a ((a, oe) :: pn)).env) :: starEach [e2] (X.suite a ((a, oe) :: pn)).env := by rfl) (he2 : starEach [e2] (X.suite a ((a, oe) :: pn)).env = (false, eval e2 (X.suite a ((a, oe) :: pn)).env) :: starEach [] (X.suite a ((a, oe) :: pn)).env := by rfl)
    (hpl : (backTo pos (starEach [e2] (X.suite a ((a, oe) :: pn)).env)).any (·.1) = false := by rfl) :
    QE (X.suite a ((a, oe) :: pn)) Cl i a fs d (.Call (.Name "isinstance" p3) [.Name x p1, e2] [] pos) (mC (.bl b)) := by
  refine ⟨_, pe_callB (call_isX T hz hf) hg hm PyProof.Rows.boot_isinstance (pa_cons (hs := he) (pe_var (i := i) hN hvis hd hcd) (pa_cons (hs := he2) hv pa_nil)) (he := he) (hpl := hpl), fun β H σ s st Q hr hs hh h => ?_⟩
  exact ⟨.ref a, hh.1, c, cv, b, rfl, hcv, hk, hand_some hh, PoG.val h hr (.bl b)⟩
/-- what the top says of a class of errors whose fields are read -/
structure XFld (K : PySem.W.Frag) (D : Addr) (f : Str) : Prop where
  ga : PySem.W.findIn K (.ref D) "__getattribute__" = some (some (.builtin "BaseException.__getattribute__"))
  gg : PySem.W.findIn K (.ref D) "__getattr__" = some none
  ex : PySem.W.subIn K (.ref D) (.type "BaseException") = some true
  hd : PySem.W.hasDictIn K D = true
  no : PySem.W.findIn K (.ref D) f = some none
@[simp] def mXF (fs : Fl) (f : Str) : ME := fun _ st => match fs.lookup f with
  | some w => .ok w st
  | none => .stuck
theorem qe_fld {f : Str} (T : XFld X.K D f) (hz : Zc (.ref D) d oe) (hf : ∃ vs, oe.data = .fields vs)
    (hN : X.N[i]? = some x := by rfl) (hvis : Vis X.env.scope x := by first | exact Or.inl rfl | exact Or.inr (Or.inl rfl) | exact Or.inr (Or.inr rfl)) (hd : (x == ("__debug__" : Str)) = false := by decide) (hcd : (x == ("__classdict__" : Str)) = false := by decide)
    (hb : attributeBase (.Name x p1) f (X.suite a ((a, oe) :: pn)).env (eval (.Name x p1) (X.suite a ((a, oe) :: pn)).env) = eval (.Name x p1) (X.suite a ((a, oe) :: pn)).env := by rfl) :
    QE (X.suite a ((a, oe) :: pn)) Cl i a fs d (.Attribute (.Name x p1) f pos) (mXF fs f) := by
  refine ⟨fun σ H Q => σ[i]? = some (some (.ref a)) ∧ ∃ dd gs v, d = some dd ∧ H dd = some (.xd gs) ∧ gs.lookup f = some v ∧ Q v H, ⟨fun pins s σ H Q I h => ?_⟩, fun β H σ s st Q hr hs hh h => ?_⟩
  · obtain ⟨hσ, dd, gs, v, ed, ea, hl, q⟩ := h
    refine attr_of hb (thn ((pe_var (X := X.suite a ((a, oe) :: pn)) (i := i) (pos := p1) hN hvis hd hcd).run pins s σ H (fun u H1 => u = .ref a ∧ H1 = H) I ⟨.ref a, hσ, rfl, rfl⟩) fun u s1 hh => ?_)
    obtain ⟨w, H1, I1, rw1, ew, eH⟩ := hh
    subst ew
    subst eH
    cases (show u = Value.ref a from rw1)
    obtain ⟨ha, -⟩ := I1.pin (a, oe) (List.mem_append_left _ List.mem_cons_self)
    obtain ⟨vs, hdat⟩ := hf
    have ok : ObjOk X.prog X.w H1 s1.heap dd (.xd gs) := I1.hok dd _ ea
    obtain ⟨mA, hns, hrel⟩ := ok
    obtain ⟨od, ho, hlk⟩ := lookIn_ns hns
    obtain ⟨u2, hu, ru⟩ := RelO.some_of (v := v) (o := mA f) (by rw [← hl]; exact hrel f)
    have J : PySem.W.InstAt s1.heap a oe D (some od) := ⟨ha, hz.1, by unfold PySem.W.notCls; rw [hdat] <;> trivial, by rw [hz.2, ed]; exact ho⟩
    exact HandSPX.exc_get I1.kIn J T.ga T.gg T.ex (PySem.W.findObj_own T.hd T.no rfl (by rw [hlk, hu])) (handed_of ru) ⟨v, H1, I1.tok _, ru, q⟩
  · simp only [mXF] at h
    split at h
    · rename_i w ew
      rcases hh.2 with ⟨e1, -⟩ | ⟨dd, gs, e1, -, e3, e4⟩
      · rw [e1] at ew; cases ew
      · obtain ⟨v, hv, rv⟩ := e4.look ew
        exact ⟨hh.1, dd, gs, v, e1, e3, hv, PoG.val h hr rv⟩
    · exact h.elim
end
end Mi
/-! The mirror layer, part V: try: one call, and clauses; raise C(e, ..) where C keeps its arguments as fields. -/
namespace Mi
open PySem L2
abbrev MCl := (Nat → Option Bool) × Option Nat × (Nat → Fl → MS)
def dropO (o : SO) : Option Nat → SO
  | none => o
  | some i => match o with
    | .nx s st => .nx (s.set i none) st
    | .bk s st => .bk (s.set i none) st
    | .ct s st => .ct (s.set i none) st
    | o => o
def dropI (s : Slo) : Option Nat → Slo
  | none => s
  | some i => s.set i none
def inI (s : Slo) : Option Nat → Bool
  | none => true
  | some i => decide (i < s.length)
def mCla : List MCl → Nat → Fl → MS
  | [], c, fs => fun _ st => .exc c fs st
  | (sub, nm, ms) :: r, c, fs => fun s st => match sub c with
    | some true => if inI s nm = true then calmS (dropO (ms c fs (dropI s nm) st) nm) else .stuck
    | some false => mCla r c fs s st
    | none => .stuck
@[simp] def mTryC (body : MS) (cl : List MCl) : MS := fun s st => match body s st with
  | .exc c fs st1 => mCla cl c fs s st1
  | o => o
inductive JCla (X : Cx) (Cl : Nat → Addr) : List ExceptHandler → List MCl → Prop
  | nil : JCla X Cl [] []
  | cons0 {x : Str} {hc : Nat} {sub : Nat → Option Bool} {b₀ : Stmt} {suite : List Stmt} {np pos' : Pos} {hds : List ExceptHandler} {l : List MCl} {ms : MS} (hm : X.mg x = some (.ref (Cl hc)))
      (hsub : ∀ c b, sub c = some b → PySem.W.exmOne X.K (.ref (Cl c)) (.ref (Cl hc)) = some b)
      (hsu : ∀ (a : Addr) (oe : Obj) (pn : List (Addr × Obj)), JSs (X.suite a ((a, oe) :: pn)) Cl E0 (b₀ :: suite) ms) (r : JCla X Cl hds l) (hg : Gl X x := by rfl) (hdb : (x == ("__debug__" : Str)) = false := by decide) :
      JCla X Cl (.ExceptHandler (some (.Name x np)) none (b₀ :: suite) pos' :: hds) ((sub, none, fun _ _ => ms) :: l)
  | cons1 {x n : Str} {hc : Nat} (i : Nat) {sub : Nat → Option Bool} {b₀ : Stmt} {suite : List Stmt} {np pos' : Pos} {hds : List ExceptHandler} {l : List MCl} {ms : Nat → Fl → MS} (hm : X.mg x = some (.ref (Cl hc)))
      (hsub : ∀ c b, sub c = some b → PySem.W.exmOne X.K (.ref (Cl c)) (.ref (Cl hc)) = some b)
      (hsu : ∀ (c : Nat), sub c = some true → ∀ (fs : Fl) (a : Addr) (oe : Obj) (d : Option Addr) (pn : List (Addr × Obj)), Zc (.ref (Cl c)) d oe → (∃ vs, oe.data = .fields vs) → QS (X.suite a ((a, oe) :: pn)) Cl i a fs d (b₀ :: suite) (ms c fs)) (r : JCla X Cl hds l)
      (hi : X.N[i]? = some n := by rfl) (hl : X.env.kindOf n = some .local := by rfl) (hg : Gl X x := by rfl) (hdb : (x == ("__debug__" : Str)) = false := by decide) :
      JCla X Cl (.ExceptHandler (some (.Name x np)) (some n) (b₀ :: suite) pos' :: hds) ((sub, some i, ms) :: l)
/-! ### an error's own dict, guarded -/
theorem ext_guardX {K : PySem.W.Frag} {β : Bt} {H : Hp} {dd : Addr} {gs : List (Str × V)} (hx : H dd = some (.xd gs)) : Ext K β H (β.guard dd) H where
  tup := fun _ _ h => h
  lst := fun q vs hq n => ⟨hq, n.1, fun z => by
    rcases List.mem_cons.mp z with z | z
    · subst z; rw [hx] at hq; cases hq
    · exact n.2 z⟩
  frz := fun _ _ _ h => h
  live := fun _ _ h => .inl h
  prot := fun q hq o ho => ⟨List.mem_cons_of_mem _ hq, ho⟩
theorem hr_guardX {K : PySem.W.Frag} {Cl : Nat → Addr} {β : Bt} {H : Hp} {st : Sto} {dd : Addr} {gs : List (Str × V)} (h : HR K Cl β H st) (hx : H dd = some (.xd gs)) : HR K Cl (β.guard dd) H st where
  len := h.len
  inj := h.inj
  ob := fun i a ob hi ho => (h.ob i a ob hi ho).ext (ext_guardX hx) rfl
  dead := h.dead
  prot := fun q hq => by
    rcases List.mem_cons.mp hq with e | hq
    · subst e
      refine ⟨⟨_, hx⟩, fun i hi => ?_⟩
      obtain ⟨ob, ho⟩ : ∃ ob, st[i]? = some ob := ⟨_, List.getElem?_eq_getElem (h.len' hi)⟩
      obtain ⟨u, hu, hm⟩ := (h.ob i q ob hi ho).some
      rw [hx] at hu
      cases hu
      exact hm
    · exact h.prot q hq
theorem sr_unset {K : PySem.W.Frag} {β : Bt} {H : Hp} {s : Slo} {σ : L2.St} (h : SR K β H s σ) (i : Nat) (x : Option V) : SR K β H (s.set i none) (σ.set i x) := by
  refine ⟨by rw [List.length_set, List.length_set, h.1], fun k w hk => ?_⟩
  by_cases e : i = k
  · subst e
    by_cases hl : i < s.length
    · rw [List.getElem?_set_self hl] at hk; cases hk
    · rw [List.getElem?_eq_none (by rw [List.length_set]; omega)] at hk; cases hk
  · rw [List.getElem?_set_ne e] at hk ⊢
    exact h.2 k w hk
section
variable {X : Cx} {Cl : Nat → Addr} {E : XK}
theorem JCla.ex {hds : List ExceptHandler} {cl : List MCl} (h : JCla X Cl hds cl) : ∃ l : List Cls1, Cla X hds l ∧ ∀ (c : Nat) (fs : Fl) (d : Option Addr) (β : Bt) (H : Hp) (σ : L2.St) (s : Slo) (st : Sto) (D : Ends), HR X.K Cl β H st → SR X.K β H s σ → RX X.K β H fs d →
    PoS X.K Cl E D β H (mCla cl c fs s st) → wList X.K (fun cls d _ H => E cls d H) D l (.ref (Cl c)) d σ H := by
  induction h with
  | nil => exact ⟨[], .nil, fun c fs d β H σ s st D hr hs rx h => h β H d (Ext.refl _ _ _) hr rx⟩
  | @cons0 x hc sub b₀ suite np pos' hds l ms hm hsub hsu r hg hdb ih =>
    obtain ⟨l2, k2, q2⟩ := ih
    refine ⟨(.ref (Cl hc), none, fun _ _ _ D σ H => ∃ β s st, HR X.K Cl β H st ∧ SR X.K β H s σ ∧ PoS X.K Cl E0 D β H (ms s st)) :: l2, .cons0 ⟨hg, hdb, .inl hm⟩ (fun a oe cls d pn _ _ => ?_) k2, fun c fs d β H σ s st D hr hs rx h => ?_⟩
    · obtain ⟨t, p, q⟩ := (hsu a oe pn).ex
      exact pss_imp p fun D σ H ⟨β, s, st, hr, hs, h⟩ => q β H σ s st D hr hs h
    · simp only [mCla] at h
      cases es : sub c with
      | none => rw [es] at h; exact h.elim
      | some b =>
        rw [es] at h
        refine ⟨b, hsub c b es, fun hb a ha => ?_, fun hb => ?_⟩
        · subst hb
          refine ⟨β, s, st, hr, hs, ?_⟩
          simp only [inI, if_true, dropI, dropO] at h
          cases eo : ms s st with
          | exc c2 fs2 st2 => rw [eo] at h; exact h.elim
          | nx s2 st2 => rw [eo] at h; exact h
          | rt w st2 => rw [eo] at h; exact h
          | bk s2 st2 => rw [eo] at h; exact h
          | ct s2 st2 => rw [eo] at h; exact h
          | stuck => rw [eo] at h; exact h
        · subst hb
          exact q2 c fs d β H σ s st D hr hs rx h
  | @cons1 x n hc i sub b₀ suite np pos' hds l ms hm hsub hsu r hi hl hg hdb ih =>
    obtain ⟨l2, k2, q2⟩ := ih
    refine ⟨(.ref (Cl hc), some i, fun a cls d D σ H => ∃ c fs β s st, cls = .ref (Cl c) ∧ sub c = some true ∧ HR X.K Cl β H st ∧ SR X.K β H s σ ∧ Hand X.K β H σ i a fs d ∧ PoS X.K Cl E0 D β H (ms c fs s st)) :: l2, .cons1 ⟨hg, hdb, .inl hm⟩ hi hl (fun a oe cls d pn hz hf => ?_) k2, fun c fs d β H σ s st D hr hs rx h => ?_⟩
    · refine ⟨fun pins s0 σ H D I h => ?_⟩
      obtain ⟨c, fs, β, s, st, rfl, hc2, hr, hs, hh, hp⟩ := h
      obtain ⟨t, p, q⟩ := (hsu c hc2 fs a oe d pn hz hf).ex
      exact p.run pins s0 σ H D I (q β H σ s st D hr hs hh hp)
    · simp only [mCla] at h
      cases es : sub c with
      | none => rw [es] at h; exact h.elim
      | some b =>
        rw [es] at h
        refine ⟨b, hsub c b es, fun hb a ha => ?_, fun hb => ?_⟩
        · subst hb
          simp only [inI, dropI] at h
          by_cases hlen : i < s.length
          · simp only [hlen, decide_true, if_true] at h
            have hσ : (σ.set i (some (V.ref a)))[i]? = some (some (.ref a)) := List.getElem?_set_self (by rw [← hs.1]; exact hlen)
            obtain ⟨β2, e2, hr2, hh⟩ : ∃ β2, Ext X.K β H β2 H ∧ HR X.K Cl β2 H st ∧ Hand X.K β2 H (σ.set i (some (.ref a))) i a fs d := by
              rcases rx with rx | ⟨dd, gs, h1, h2, h3⟩
              · exact ⟨β, Ext.refl _ _ _, hr, hσ, .inl rx⟩
              · exact ⟨β.guard dd, ext_guardX h2, hr_guardX hr h2, hσ, .inr ⟨dd, gs, h1, List.mem_cons_self, h2, h3.ext (ext_guardX h2)⟩⟩
            refine ⟨c, fs, β2, s.set i none, st, rfl, es, hr2, sr_unset (hs.ext e2) i _, hh, ?_⟩
            have h' := PoS.ext e2 h
            simp only [dropO] at h'
            cases eo : ms c fs (s.set i none) st with
            | exc c2 fs2 st2 => rw [eo] at h'; exact h'.elim
            | nx s2 st2 => rw [eo] at h'; exact fun β3 H3 σ3 e3 hr3 hs3 => h' β3 H3 _ e3 hr3 (sr_unset hs3 i none)
            | bk s2 st2 => rw [eo] at h'; exact fun β3 H3 σ3 e3 hr3 hs3 => h' β3 H3 _ e3 hr3 (sr_unset hs3 i none)
            | ct s2 st2 => rw [eo] at h'; exact fun β3 H3 σ3 e3 hr3 hs3 => h' β3 H3 _ e3 hr3 (sr_unset hs3 i none)
            | rt w st2 => rw [eo] at h'; exact h'
            | stuck => rw [eo] at h'; exact h'
          · simp only [hlen, decide_false, Bool.false_eq_true, if_false] at h
            exact h.elim
        · subst hb
          exact q2 c fs d β H σ s st D hr hs rx h
theorem js_tryC {body : List Stmt} {h₀ : ExceptHandler} {hds : List ExceptHandler} {cl : List MCl} {pos : Pos} {mb : MS} (hN : X.N.Nodup) (tk : Takes X (fun cls d _ H => E cls d H))
    (hb : ∀ (W : WX) (pn : List (Addr × Obj)) (xe : Value → Shared → Prop), Takes (X.tr pn xe) W → JB (X.tr pn xe) Cl W body mb)
    (hh : JCla X Cl (h₀ :: hds) cl) (hs : X.stack = X.env :: X.outer := by rfl) (hf : X.env.frame = some X.env.locals := by rfl) :
    JS X Cl E (.Try body (h₀ :: hds) [] [] pos) (mTryC mb cl) := by
  obtain ⟨l, k, q⟩ := hh.ex (E := E)
  refine ⟨_, ps_tryC (tb := fun W => tBody X.K Cl mb W) hs hf hN tk (fun W pn xe t _ => (hb W pn xe t).ps) k, fun β H σ s st D hr hs h => ⟨β, s, st, hr, hs, ?_⟩⟩
  simp only [mTryC] at h
  cases ei : mb s st with
  | exc c fs st1 =>
    rw [ei] at h
    intro β1 H1 d e1 hr1 rx
    exact q c fs d β1 H1 σ s st1 D hr1 (hs.ext e1) rx (PoS.ext e1 h)
  | nx s1 st1 => rw [ei] at h; exact h
  | rt w st1 => rw [ei] at h; exact h
  | bk s1 st1 => rw [ei] at h; exact h
  | ct s1 st1 => rw [ei] at h; exact h
  | stuck => rw [ei] at h; exact h
end
/-- a clause that takes just the error D -/
def Only1 (sub : Nat → Option Bool) (D : Nat) : Prop := ∀ c, sub c = some true → c = D
theorem onlyN {D : Nat} : Only1 tabN D := fun c h => by cases h
theorem onlyT {D : Nat} {r : Nat → Option Bool} (h : Only1 r D) : Only1 (tabC D true r) D := fun c hc => by
  unfold tabC at hc
  split at hc
  · assumption
  · exact h c hc
theorem onlyF {D c0 : Nat} {r : Nat → Option Bool} (h : Only1 r D) : Only1 (tabC c0 false r) D := fun c hc => by
  unfold tabC at hc
  split at hc
  · cases hc
  · exact h c hc
theorem JCla.cons1D {X : Cx} {Cl : Nat → Addr} {x n : Str} {hc D : Nat} (i : Nat) {sub : Nat → Option Bool} {b₀ : Stmt} {suite : List Stmt} {np pos' : Pos} {hds : List ExceptHandler} {l : List MCl} {ms : Fl → MS} (hm : X.mg x = some (.ref (Cl hc)))
    (hsub : ∀ c b, sub c = some b → PySem.W.exmOne X.K (.ref (Cl c)) (.ref (Cl hc)) = some b) (ho : Only1 sub D)
    (hsu : ∀ (fs : Fl) (a : Addr) (oe : Obj) (d : Option Addr) (pn : List (Addr × Obj)), Zc (.ref (Cl D)) d oe → (∃ vs, oe.data = .fields vs) → QS (X.suite a ((a, oe) :: pn)) Cl i a fs d (b₀ :: suite) (ms fs)) (r : JCla X Cl hds l)
    (hi : X.N[i]? = some n := by rfl) (hl : X.env.kindOf n = some .local := by rfl) (hg : Gl X x := by rfl) (hdb : (x == ("__debug__" : Str)) = false := by decide) :
    JCla X Cl (.ExceptHandler (some (.Name x np)) (some n) (b₀ :: suite) pos' :: hds) ((sub, some i, fun _ fs => ms fs) :: l) :=
  .cons1 i hm hsub (fun c hc2 fs a oe d pn hz hf => by
    have := ho c hc2
    subst this
    exact hsu fs a oe d pn hz hf) r hi hl hg hdb
/-! ### errors that keep their arguments -/
/-- what __init__ leaves: one field; two fields -/
def spE1 (C : Addr) (f : Str) : Sp := fun vs H Q _ => ∃ a y, vs = [.ref a, y] ∧ H a = some (exo a C none) ∧ ∀ dx, H dx = none → dx ≠ a → Q .non (upd (upd H dx (exd dx [(f, y)])) a (exo a C (some dx)))
def spE2 (C : Addr) (f g : Str) : Sp := fun vs H Q _ => ∃ a y z, vs = [.ref a, y, z] ∧ H a = some (exo a C none) ∧ ∀ dx, H dx = none → dx ≠ a → Q .non (upd (upd (upd H dx (exd dx [(f, y)])) a (exo a C (some dx))) dx (exd dx [(g, z), (f, y)]))
structure XInit (K : PySem.W.Frag) (mg : Str → Option Value) (x : Str) (C fI : Addr) : Prop where
  g : mg x = some (.ref C)
  o : OexC K C
  i : PySem.W.findIn K (.ref C) "__init__" = some (some (.ref fI))
  t : PySem.W.typeIn K (.ref fI) = some (.type "function")
section
variable {P : Program} {w : World} {K : PySem.W.Frag} {mg : Str → Option Value} {base : Heap}
theorem init1_ok {qual : Str} {st : Stmt} {f C : Addr} {fd : FuncData} {N ps : List Str} {fl : Str} (F : Fun K "__init__" qual st f fd) (S : FnScope N ps (defScope st)) (hp : ps.length = 2) (hN : N.length = 2) (T : OexC K C) (hno : PySem.W.findIn K (.ref C) fl = some none)
    (hb : ∀ (cdv : Value) (A : Around) (outer : List Env) (s : Shared) (H : Hp) (E : XK), ∃ to te, PSs (cxOf CX0 P w K mg base N qual (defScope st) f cdv A outer s H E).nox (defBody st) (tOst K fl to te) ∧ (∀ σ H1 Q v, σ[0]? = some (some v) → Q v H1 → to σ H1 Q) ∧ (∀ σ H1 Q v, σ[1]? = some (some v) → Q v H1 → te σ H1 Q)) :
    FnOk P w K mg base CX0 1 f fd ps (spE1 C fl) := by
  refine F.ok S (fun vs H Q E h => ?_) (fun cdv A outer s H vs Q E hr h => ?_)
  · obtain ⟨a, y, rfl, -⟩ := h; exact hp.symm
  · obtain ⟨to, te, p, q0, q1⟩ := hb cdv A outer s H E
    obtain ⟨a, y, rfl, ha, k⟩ := h
    refine ⟨_, p, ?_⟩
    refine q1 _ _ _ y (by unfold L2.start; simp) (q0 _ _ _ (.ref a) (by unfold L2.start; simp) ⟨a, C, rfl, T, hno, .inl ⟨ha, fun dx h1 h2 => ?_⟩⟩)
    exact k dx h1 h2
end
section
variable {P : Program} {w : World} {K : PySem.W.Frag} {mg : Str → Option Value} {base : Heap}
theorem init2_ok {qual : Str} {st : Stmt} {f C : Addr} {fd : FuncData} {N ps : List Str} {fl gl : Str} (F : Fun K "__init__" qual st f fd) (S : FnScope N ps (defScope st)) (hp : ps.length = 3) (hN : N.length = 3) (T : OexC K C) (hno : PySem.W.findIn K (.ref C) fl = some none) (hno2 : PySem.W.findIn K (.ref C) gl = some none)
    (hb : ∀ (cdv : Value) (A : Around) (outer : List Env) (s : Shared) (H : Hp) (E : XK), ∃ to te te2, PSs (cxOf CX0 P w K mg base N qual (defScope st) f cdv A outer s H E).nox (defBody st) (tSeq (tOst K fl to te) (tOst K gl to te2)) ∧ (∀ σ H1 Q v, σ[0]? = some (some v) → Q v H1 → to σ H1 Q) ∧ (∀ σ H1 Q v, σ[1]? = some (some v) → Q v H1 → te σ H1 Q) ∧ (∀ σ H1 Q v, σ[2]? = some (some v) → Q v H1 → te2 σ H1 Q)) :
    FnOk P w K mg base CX0 1 f fd ps (spE2 C fl gl) := by
  refine F.ok S (fun vs H Q E h => ?_) (fun cdv A outer s H vs Q E hr h => ?_)
  · obtain ⟨a, y, z, rfl, -⟩ := h; exact hp.symm
  · obtain ⟨to, te, te2, p, q0, q1, q2⟩ := hb cdv A outer s H E
    obtain ⟨a, y, z, rfl, ha, k⟩ := h
    refine ⟨_, p, ?_⟩
    refine q1 _ _ _ y (by unfold L2.start; simp) (q0 _ _ _ (.ref a) (by unfold L2.start; simp) ⟨a, C, rfl, T, hno, .inl ⟨ha, fun dx h1 h2 => ?_⟩⟩)
    refine q2 _ _ _ z (by unfold L2.start; simp) (q0 _ _ _ (.ref a) (by unfold L2.start; simp) ⟨a, C, rfl, T, hno2, .inr ⟨dx, [(fl, y)], upd_same, ?_, by simp, k dx h1 h2⟩⟩)
    rw [upd_ne h2, upd_same]
end
/-- the promise of an __init__ that keeps its arguments under the names ns -/
def KeepsF (C : Addr) (ns : List Str) (sp : Sp) : Prop := ∀ (vs : List V) (H1 : Hp) (a : Addr) (Q : XK), vs.length = ns.length → H1 a = none → (∀ d, H1 d = none → Q (.ref C) (some d) (upd H1 d (.xd (List.zip ns vs).reverse))) →
  sp (.ref a :: (vs ++ [])) (upd H1 a (exo a C none)) (fun v H2 => v = .non ∧ ∃ (d : Addr) (fs : List (Str × V)), H2 a = some (exo a C (some d)) ∧ H2 d = some (exd d fs) ∧ H1 d = none ∧ Q (.ref C) (some d) (upd (del H2 a) d (.xd fs))) (fun _ _ _ => False)
theorem keeps1 {C : Addr} {f : Str} : KeepsF C [f] (spE1 C f) := fun vs H1 a Q hl ha k => by
  match vs, hl with
  | [y], _ =>
    refine ⟨a, y, rfl, upd_same, fun dx h1 h2 => ⟨rfl, dx, [(f, y)], upd_same, by rw [upd_ne h2, upd_same], by rwa [upd_ne h2] at h1, ?_⟩⟩
    have hd : H1 dx = none := by rwa [upd_ne h2] at h1
    have e : upd (del (upd (upd (upd H1 a (exo a C none)) dx (exd dx [(f, y)])) a (exo a C (some dx))) a) dx (.xd [(f, y)]) = upd H1 dx (.xd [(f, y)]) := by
      funext b
      by_cases hb : b = dx
      · subst hb; rw [upd_same, upd_same]
      · rw [upd_ne hb, upd_ne hb]
        by_cases hb2 : b = a
        · subst hb2; rw [del_same, ha]
        · rw [del_ne hb2, upd_ne hb2, upd_ne hb, upd_ne hb2]
    rw [e]
    exact k dx hd
theorem keeps2 {C : Addr} {f g : Str} : KeepsF C [f, g] (spE2 C f g) := fun vs H1 a Q hl ha k => by
  match vs, hl with
  | [y, z], _ =>
    refine ⟨a, y, z, rfl, upd_same, fun dx h1 h2 => ⟨rfl, dx, [(g, z), (f, y)], by rw [upd_ne h2.symm, upd_same], upd_same, by rwa [upd_ne h2] at h1, ?_⟩⟩
    have hd : H1 dx = none := by rwa [upd_ne h2] at h1
    have e : upd (del (upd (upd (upd (upd H1 a (exo a C none)) dx (exd dx [(f, y)])) a (exo a C (some dx))) dx (exd dx [(g, z), (f, y)])) a) dx (.xd [(g, z), (f, y)]) = upd H1 dx (.xd [(g, z), (f, y)]) := by
      funext b
      by_cases hb : b = dx
      · subst hb; rw [upd_same, upd_same]
      · rw [upd_ne hb, upd_ne hb]
        by_cases hb2 : b = a
        · subst hb2; rw [del_same, ha]
        · rw [del_ne hb2, upd_ne hb, upd_ne hb2, upd_ne hb, upd_ne hb2]
    rw [e]
    exact k dx hd
@[simp] def mRaiseF (c : Nat) (ns : List Str) (a : MA) : MS := fun s st => match a s st with
  | .ok ws st1 => if ws.length = ns.length then .exc c (List.zip ns ws).reverse st1 else .stuck
  | .exc c2 fs st1 => .exc c2 fs st1
  | .stuck => .stuck
theorem rf_append {K : PySem.W.Frag} {β : Bt} {H : Hp} {κ : Type} : ∀ {fs gs : List (κ × W)} {us vs : List (κ × V)}, RF K β H fs us → RF K β H gs vs → RF K β H (fs ++ gs) (us ++ vs)
  | _, _, _, _, .nil, s => s
  | _, _, _, _, .cons h r, s => .cons h (rf_append r s)
theorem rf_reverse {K : PySem.W.Frag} {β : Bt} {H : Hp} {κ : Type} : ∀ {fs : List (κ × W)} {us : List (κ × V)}, RF K β H fs us → RF K β H fs.reverse us.reverse
  | _, _, .nil => .nil
  | _, _, .cons h r => by
    rw [List.reverse_cons, List.reverse_cons]
    exact rf_append (rf_reverse r) (.cons h .nil)
theorem rf_zip {K : PySem.W.Frag} {β : Bt} {H : Hp} : ∀ (ns : List Str) {ws : List W} {vs : List V}, RVs K β H ws vs → RF K β H (List.zip ns ws) (List.zip ns vs)
  | [], _, _, _ => .nil
  | _ :: _, _, _, .nil => .nil
  | n :: ns, _, _, .cons h r => .cons h (rf_zip ns r)
theorem js_raiseF {X : Cx} {Cl : Nat → Addr} {E : XK} {c k fI : Nat} {x : Str} {ns : List Str} {fd : FuncData} {ps : List Str} {sp : Sp} {e : Expr} {es : List Expr} {mr : MA} {p pos pos' : Pos} (T : XInit X.K X.mg x (Cl c) fI) (F1 : FnOk X.prog X.w X.K X.mg X.base CX0 k fI fd ps sp) (hk : KeepsF (Cl c) ns sp) (hr : Room (k + 1) X.A) (hb : Binds X.K fd ps [])
    (tk : Takes X (fun cls d _ H => E cls d H)) (ha : JA X Cl E (e :: es) mr) (hn : ns.length ≤ 1000 := by decide) (hc : X.calm = true := by rfl) (hg : Gl X x := by rfl) (hdb : (x == ("__debug__" : Str)) = false := by decide) (he : starEach (e :: es) X.env = (false, eval e X.env) :: starEach es X.env := by rfl) (hpl : (backTo pos (starEach es X.env)).any (·.1) = false := by rfl) :
    JS X Cl E (.Raise (some (.Call (.Name x p) (e :: es) [] pos)) none pos') (mRaiseF c ns mr) := by
  obtain ⟨t, pr, q⟩ := ha.ex
  refine ⟨_, ps_raise hc tk (pmk_oex T.o T.i T.t F1 hr hb .nil pass0 hg T.g pr hdb he hpl), fun β H σ s st D hr hs h => q β H σ s st _ hr hs ?_⟩
  simp only [mRaiseF] at h
  cases ei : mr s st with
  | stuck => rw [ei] at h; exact h
  | exc c2 fs st1 => rw [ei] at h; exact h
  | ok ws st1 =>
    rw [ei] at h
    simp only at h
    intro β1 H1 vs e1 hr1 rv
    split at h
    · rename_i hl
      have hl2 : vs.length = ns.length := by rw [← rv.length]; exact hl
      refine ⟨by omega, fun a ha => ?_⟩
      refine hk vs H1 a (fun cls d H' => E cls d H') hl2 ha fun d hd => ?_
      have ex : Ext X.K β1 H1 β1 (upd H1 d (.xd (List.zip ns vs).reverse)) := Ext.new hd
      exact h β1 _ (some d) (e1.trans ex) (hr1.new hd) (.inr ⟨d, _, rfl, upd_same, rf_reverse (rf_zip ns (rv.ext ex))⟩)
    · exact h.elim
end Mi
/-! The mirror layer, part U: dicts with tuple keys: d[..] = v, len(d). -/
namespace Mi
open PySem L2
/-- d[(..)] = v -/
@[simp] def mTPut (d : ME) (k : MA) (e : ME) : MS := fun s st => (e s st).run fun w st1 => (d s st1).run fun x st2 => (k s st2).run fun ks st3 => match x with
  | .ref r => match st3[r]?, keysT ks with
    | some (.dT kvs), some k => if kvs.length < sizeLine ∧ ks.length ≤ sizeLine then .nx s (st3.set r (.dT (putKW kvs k w))) else .stuck
    | _, _ => .stuck
  | _ => .stuck
section
variable {X : Cx} {Cl : Nat → Addr} {E : XK} {pos pos' tpos : Pos}
theorem js_tput {o e : Expr} {es : List Expr} {k : Nat} {md ma : ME} {mk : MA} (hu : X.A.units + 1 < cLine) (ho : JE X Cl E o md) (hi : JA X Cl E es mk) (he : JE X Cl E e ma) (hs : swapsWith e (some (.Subscript o (.Tuple es k tpos) pos')) pos.line X.env = pure false := by rfl) :
    JS X Cl E (.Assign [.Subscript o (.Tuple es k tpos) pos'] e pos) (mTPut md mk ma) := by
  obtain ⟨_, p1, q1⟩ := he.ex
  obtain ⟨_, p2, q2⟩ := ho.ex
  obtain ⟨_, p3, q3⟩ := hi.ex
  refine ⟨_, ps_dput hu p2 (pe_tup p3) p1 hs, fun β H σ s st D hr hs h => q1 β H σ s st _ hr hs (h.run fun x st1 β1 H1 v _ e1 hr1 rx h1 => q2 β1 H1 σ s st1 _ hr1 (hs.ext e1) (h1.run fun y st2 β2 H2 u _ e2 hr2 ry0 h2 =>
    q3 β2 H2 σ s st2 _ hr2 ((hs.ext e1).ext e2) (h2.run fun ks st3 β3 H3 vs _ e3 hr3 rk h3 => ?_)))⟩
  have ry := ry0.ext e3
  cases y with
  | ref r =>
    simp only at h3
    split at h3
    · rename_i kvs k es ek
      split at h3
      · rename_i hl
        refine ⟨by rw [← rk.length]; exact hl.2, fun p hp => ?_⟩
        have e4 : Ext X.K β3 H3 β3 (upd H3 p (.tup vs)) := Ext.new hp
        have hr4 : HR X.K Cl β3 (upd H3 p (.tup vs)) st3 := hr3.new hp
        obtain ⟨a, rfl, hb, gs, hv, hrs⟩ := (ry.ext e4).atRef hr4 es (by intro z; cases z)
        have em : Ext X.K β3 (upd H3 p (.tup vs)) β3 (upd (upd H3 p (.tup vs)) a (.dT (putK gs k v))) := Ext.mut hr4 hb hv trivial
        exact ⟨a, _, rfl, .inr ⟨gs, k, p, hv, rfl, by rw [upd_same, keysT_ok rk ek], by rw [← hrs.length]; exact hl.1, rfl⟩, h3 β3 _ σ (e4.trans em) (hr4.mut hb hv trivial ⟨_, upd_same, (hrs.put k (((rx.ext e2).ext e3).ext e4)).ext em⟩) (((((hs.ext e1).ext e2).ext e3).ext e4).ext em)⟩
      · exact h3.elim
    · exact h3.elim
  | _ => exact h3.elim
/-- len of a dict, whatever its keys are -/
theorem len_raw {prog : Program} {w : World} {A : Around} {E : Value → Shared → Prop} {s : Shared} {d : Addr} {es : Array DictEntry} {ep : Nat} {Q : Value → Shared → Prop} (hd : (d == sysModules) = false) (ty : s.TypeIs (.ref d) "dict") (hm : s.heap.DictRaw d es ep) (hfit : (es.size : Int) < 2 ^ 63)
    (h : ∀ t, Q (.int es.size t) { s with toks := t + 1 }) : wpAny (model prog w) A (call (.builtin "len") [.ref d]) Q E s := by
  have inner : ∀ A : Around, wpAny (model prog w) A (callSpecial? (.ref d) (Str.ofString "__len__")) (fun r s2 => r = some (.int es.size s.toks) ∧ s2 = { s with toks := s.toks + 1 }) E s := fun A =>
    wpAny_callSpecial?_slot (name := Str.ofString "__len__") ty F.slot_dict_len (PySem.call_len_raw hd hm ⟨rfl, rfl⟩)
  have body : ∀ A : Around, wpAny (model prog w) A (Builtin.«len» ⟨[.ref d], []⟩) (fun fin s' => ∃ r, fin = .done (.ret r) ∧ Q r s') E s := by
    intro A
    unfold Builtin.«len»
    refine wpAny_bind (wpAny_pure (wpAny_bind (wpAny_mono (inner A) (fun r s2 e2 => ?_) fun _ _ z => z)))
    obtain ⟨rfl, rfl⟩ := e2
    refine wpAny_bind (wpAny_holding (wpAny_pure (wpAny_bind (wpAny_letGo ?_))))
    show wpAny _ _ (if ((es.size : Nat) : Int) < 0 then _ else if ((es.size : Nat) : Int) ≥ 2 ^ 63 then _ else _) _ _ _
    rw [if_neg (by omega), if_neg (by omega)]
    exact wpAny_bind (wpAny_mkInt (wpAny_pure ⟨_, rfl, h _⟩))
  exact Calls.call_function_entry kind_len plain_len entry_len (args_len1 _) (body _)
/-- len(d), a dict with tuple keys -/
theorem call_lenT {X : Cx} : CallR X (.builtin "len") (fun xs H Q => ∃ a kvs, xs = [.ref a] ∧ H a = some (.dT kvs) ∧ Q (.int kvs.length) H) := by
  intro pins s σ H xs us Q I r h
  obtain ⟨a, kvs, rfl, ha, q⟩ := h
  cases r with
  | cons rx rr =>
    cases rr
    cases rx
    obtain ⟨z, hd, vs, rel, dd⟩ := dt_of I.hok ha
    have ty : s.TypeIs (.ref a) "dict" := dd.typeIs
    obtain ⟨es, ep, raw, rl, -⟩ := Heap.DictOfH.raw dd
    rw [rel.length] at q
    refine len_raw hd ty raw (by rw [rl]; have := rel.length; rw [sizeLine_eq] at z; omega) fun t => ?_
    rw [rl]
    exact ⟨.int vs.length, H, I.tok _, ⟨_, rfl⟩, q⟩
def mLenT : List W → Sto → Out W := fun xs st => match xs with
  | [.ref i] => match st[i]? with
    | some (.dT kvs) => .ok (.int (kvs.length : Nat)) st
    | _ => .stuck
  | _ => .stuck
theorem c_lenT : CallR X (.builtin "len") (fun xs H Q => ∃ a kvs, xs = [.ref a] ∧ H a = some (.dT kvs) ∧ Q (.int kvs.length) H) ∧ SCal X.K Cl E (fun xs H Q => ∃ a kvs, xs = [.ref a] ∧ H a = some (.dT kvs) ∧ Q (.int kvs.length) H) mLenT := by
  refine ⟨call_lenT, fun β H st xs vs Q hr r h => ?_⟩
  unfold mLenT at h
  split at h
  · rename_i i
    split at h
    · rename_i kvs es
      obtain ⟨v, rfl, rv⟩ := r.one
      obtain ⟨a, rfl, hb, gs, hv, hrs⟩ := rv.atRef hr es (by intro z; cases z)
      exact ⟨a, gs, rfl, hv, PoG.val h hr (by rw [hrs.length]; exact .int _)⟩
    · exact h.elim
  · exact h.elim
end
/-- list(range(e)) -/
def mListRg (a : ME) : ME := fun s st => (a s st).bind fun x st1 => match x with
  | .int n => if 0 ≤ n ∧ n ≤ 1000000 then .ok (.lst (rngW 0 n.toNat)) st1 else .stuck
  | _ => .stuck
theorem je_listRg {X : Cx} {Cl : Nat → Addr} {E : XK} {pos p p2 pos2 : Pos} {e : Expr} {m : ME} (hm : X.mg "list" = none) (hmr : X.mg "range" = none) (ha : JE X Cl E e m) (hc : X.calm = true := by rfl) (hg : Gl X "list" := by rfl) (hgr : Gl X "range" := by rfl)
    (n1 : starEach [e] X.env = (false, eval e X.env) :: starEach [] X.env := by rfl) (n2 : starEach [.Call (.Name "range" p2) [e] [] pos2] X.env = (false, eval (.Call (.Name "range" p2) [e] [] pos2) X.env) :: starEach [] X.env := by rfl) :
    JE X Cl E (.Call (.Name "list" p) [.Call (.Name "range" p2) [e] [] pos2] [] pos) (mListRg m) := by
  obtain ⟨_, p1, q1⟩ := ha.ex
  refine ⟨_, pe_listRg hc hg hm (prg_1 hgr hmr p1 n1) n2, fun β H σ s st Q hr hs h => q1 β H σ s st _ hr hs ?_⟩
  refine h.bind fun x st1 β1 H1 v eo e1 hr1 rx h1 => ?_
  clear eo
  split at h1
  · rename_i n
    cases rx
    split at h1
    · rename_i hn
      refine ⟨n, rfl, ⟨by omega, by omega, by omega, by omega⟩, fun l hl => ?_⟩
      have rv : RVs X.K β1 H1 (rngW 0 n.toNat) (rgV 0 n) := by
        unfold rngW rgV
        rw [Int.sub_zero]
        generalize List.range n.toNat = ks
        induction ks with
        | nil => exact .nil
        | cons k ks ih => exact .cons (.int _) ih
      exact Po.lst h1 hr1 hl rv
    · exact h1.elim
  · exact h1.elim
end Mi
/-! The mirror layer, part W: return [f(..)] in a try's body; t[::-1] of a tuple. -/
namespace HT
open PySem PySem.Spec PyProof.Rows
section
variable {prog : Program} {w : World} {A : Around} {E : Value → Shared → Prop} {s : Shared}
theorem adjust_rev (n : Nat) : Builtin.Slice.sliceAdjust none none (-1) (n : Int) = ((n : Int) - 1, -1) := rfl
theorem places_rev (n : Nat) : Builtin.Slice.slicePlaces ((n : Int) - 1) (-1) (-1) = n := by
  unfold Builtin.Slice.slicePlaces
  have h1 : ¬ ((-1 : Int) > 0) := by omega
  simp only [h1, if_false, Int.neg_neg, Int.ediv_one]
  split <;> omega
theorem sliceApplied_rev {sl : Addr} {tk : Tok} {n : Nat} {Q : Int × Int × Nat → Shared → Prop} (hs : s.heap.IsSliceOf sl .none .none (.int (-1) tk)) (h : Q ((n : Int) - 1, -1, n) s) : wpAny (model prog w) A (Builtin.Slice.sliceApplied (.ref sl) (pure (n : Int))) Q E s := by
  obtain ⟨os, hos, hcs, hds⟩ := id hs
  unfold Builtin.Slice.sliceApplied Builtin.Slice.sliceFields
  refine wpAny_bind (wpAny_bind (wpAny_field hos hds (x := .none) rfl (wpAny_bind (wpAny_field hos hds (x := .none) rfl (wpAny_bind (wpAny_field hos hds (x := .int (-1) tk) rfl (wpAny_pure ?_)))))))
  refine wpAny_bind (slicePart_int ?_)
  show wpAny _ _ (if ((-1 : Int) == 0) = true then _ else _) _ _ s
  rw [if_neg (by decide)]
  refine wpAny_bind (slicePart_none (wpAny_bind (slicePart_none (wpAny_bind (wpAny_pure ?_)))))
  show wpAny _ _ (match Builtin.Slice.sliceAdjust none none (-1) (n : Int) with | (lo, hi) => pure (lo, (-1 : Int), Builtin.Slice.slicePlaces lo hi (-1))) _ _ s
  rw [adjust_rev n]
  show wpAny _ _ (pure ((n : Int) - 1, (-1 : Int), Builtin.Slice.slicePlaces ((n : Int) - 1) (-1) (-1))) _ _ s
  rw [places_rev]
  exact wpAny_pure h
theorem fm_congr {α β : Type} {f g : α → Option β} : ∀ l : List α, (∀ x ∈ l, f x = g x) → l.filterMap f = l.filterMap g
  | [], _ => rfl
  | x :: l, h => by
    rw [List.filterMap_cons, List.filterMap_cons, h x (by simp), fm_congr l fun y hy => h y (by simp [hy])]
theorem pick_rev (xs : Array Value) : ((List.range xs.size).filterMap fun (m : Nat) => xs[(((xs.size : Int) - 1) + (m : Int) * (-1)).toNat]?).toArray = xs.toList.reverse.toArray := by
  congr 1
  have e : (List.range xs.size).map (fun k => xs.size - 1 - k) = (List.range xs.size).reverse := by
    apply List.ext_getElem
    · simp
    · intro i h1 h2
      rw [List.getElem_map, List.getElem_reverse]
      simp
  have e2 : (List.range xs.size).filterMap (fun (m : Nat) => xs[(((xs.size : Int) - 1) + (m : Int) * (-1)).toNat]?) = ((List.range xs.size).map (fun k => xs.size - 1 - k)).filterMap (fun k => xs[k]?) := by
    rw [List.filterMap_map]
    refine fm_congr _ fun m hm => ?_
    have := List.mem_range.mp hm
    have e3 : (((xs.size : Int) - 1) + (m : Int) * (-1)).toNat = xs.size - 1 - m := by omega
    simp only [e3, Function.comp]
  rw [e2, e, List.filterMap_reverse]
  have h := pick_run xs 0 xs.size
  have e4 : (List.range xs.size).map (0 + ·) = List.range xs.size := by
    rw [show ((0 + ·) : Nat → Nat) = id from funext fun k => Nat.zero_add k, List.map_id]
  rw [e4, List.drop_zero, List.take_of_length_le (by rw [Array.length_toList]; exact Nat.le_refl _)] at h
  rw [h]
theorem getItem_tuple_rev {t sl : Addr} {items : Array Value} {tk : Tok} {Q : Value → Shared → Prop} (ht : IsTup s.heap t items) (hs : s.heap.IsSliceOf sl .none .none (.int (-1) tk))
    (h : Q (.ref s.heap.objs.size) { s with heap := s.heap.push { cls := .type "tuple", data := .seq items.toList.reverse.toArray } })
    (hsz : items.size ≤ sizeLine) : wpAny (model prog w) A (getItem (.ref t) (.ref sl)) Q E s := by
  have htake : sizeOk (.seq items.toList.reverse.toArray) := by
    show items.toList.reverse.toArray.size ≤ sizeLine
    rw [List.size_toArray, List.length_reverse, Array.length_toList]
    exact hsz
  obtain ⟨os, hos, hcs, hds⟩ := id hs
  have hTs : s.TypeIs (.ref sl) "slice" := ⟨os, hos, hcs⟩
  unfold getItem
  try with_reducible refine wpAny_holding ?_
  first | refine wpAny_bind (wpAny_pure ?_) | skip
  refine wpAny_bind (wpAny_sequenceKey ht.typeIs (by decide) ?_)
  refine wpAny_bind (wpAny_callSpecial?_slot (name := Str.ofString "__getitem__") ht.typeIs PyProof.Rows.slot_tuple_getitem
    (wpAny_call_entry PyProof.Rows.slot_tuple_getitem ht.typeIs entry_tuple_getitem ?_ (args_tuple_getitem _ _)))
  show wpAny _ _ (Builtin.Tuple.tupleItemsOf (.ref t) >>= _) _ _ s
  refine wpAny_bind (tupleItemsOf_ ht ?_)
  refine wpAny_bind (wpAny_typeOf hTs ?_)
  rw [if_pos (by decide)]
  refine wpAny_bind (sliceApplied_rev hs ?_)
  have hno : ¬ ((((items.size : Int) - 1) == 0 && (-1 : Int) == 1 && items.size == items.size) = true) := by
    intro q
    rw [Bool.and_eq_true, Bool.and_eq_true] at q
    have := eq_of_beq q.1.2
    omega
  show wpAny _ _ (if (((items.size : Int) - 1) == 0 && (-1 : Int) == 1 && items.size == items.size) = true then _ else _) _ _ s
  rw [if_neg hno, pick_rev]
  first
    | exact wpAny_bind (m := Builtin.Tuple.tupleExact _) (wpAny_newObj_type (wpAny_pure ⟨_, rfl, wpAny_pure h⟩) htake)
    | exact wpAny_bind (m := Builtin.Tuple.tupleExact _) (wpAny_newObj_type (wpAny_bind (wpAny_pure (wpAny_pure ⟨_, rfl, wpAny_pure h⟩))) htake)
    | exact wpAny_bind (wpAny_bind (m := Builtin.Tuple.tupleExact _) (wpAny_newObj_type (wpAny_pure (wpAny_pure ⟨_, rfl, wpAny_pure h⟩)) htake))
    | exact wpAny_bind (wpAny_bind (m := Builtin.Tuple.tupleExact _) (wpAny_newObj_type (wpAny_pure ⟨_, rfl, wpAny_pure h⟩) htake))
end
end HT
namespace Mi
open PySem L2 PyProof.Rows HT
section
variable {X : Cx} {Cl : Nat → Addr} {W : WX} {e : Expr} {m : ME} {pos : Pos}
theorem jc_lst1 (h : JC X Cl W e m) (hs : starEach [e] X.env = (false, eval e X.env) :: starEach [] X.env := by rfl) : JC X Cl W (.List [e] pos) (mLst (mCons m mNil)) := by
  obtain ⟨t, p, q⟩ := h.ex
  refine ⟨_, pe_lst (pa_cons p pa_nil hs), fun β H σ s st Q hr hs h => q β H σ s st _ hr hs ?_⟩
  have h' : Po X.K Cl (WE W σ) β H Q ((m s st).bind fun x st1 => .ok (.lst [x]) st1) := by
    cases hm : m s st <;> simpa [mLst, mCons, mNil, hm, sizeLine_eq] using h
  exact h'.bind fun x st1 β1 H1 v _ e1 hr1 rx h1 => ⟨by simp [sizeLine_eq], fun l hl => Po.lst h1 hr1 hl (.cons rx .nil)⟩
end
def tRev (K : PySem.W.Frag) (te tk : TE) : TE := fun σ H Q => te σ H fun x H1 => tk σ H1 fun y H2 => y = .int (-1) ∧ ∃ a xs, x = .ref a ∧ SqT K H2 a xs ∧ ∀ p, H2 p = none → Q (.ref p) (upd H2 p (.tup xs.reverse))
theorem pe_rev {X : Cx} {e k : Expr} {te tk : TE} {pos p2 : Pos} (he : PE X e te) (hk : PE X k tk) : PE X (.Subscript e (.Slice none none (some k) p2) pos) (tRev X.K te tk) := by
  refine ⟨fun pins s σ H Q I h => ?_⟩
  refine Subscript_ (thn (he.run pins s σ H _ I h) fun v s1 ⟨x, H1, I1, r1, q1⟩ => ?_)
  refine wpAny_Slice ?_
  rw [evalPart_none]
  refine wpAny_pure ?_
  refine wpAny_pure ?_
  show wpAny _ _ (eval k X.env) _ _ s1
  refine thn (hk.run pins s1 σ H1 _ I1 q1) fun u s2 ⟨y, H2, I2, r2, q2⟩ => ?_
  obtain ⟨rfl, a, xs, rfl, hx, q⟩ := q2
  obtain ⟨tk', rfl⟩ := r2
  have I3 : Inv X pins σ H2 { s2 with heap := s2.heap.push { cls := .type "slice", data := .fields #[.none, .none, .int (-1) tk'] } } := I2.kept (t' := s2.toks) fun b ob q => Heap.get?_push_of_some _ q
  cases r1
  obtain ⟨its, r, ht, hz⟩ := I3.tuple hx
  have hlen : its.toArray.size = xs.length := by rw [List.size_toArray]; exact r.length.symm
  show wpAny (model X.prog X.w) X.A (subscriptTail e (.Slice none none (some k) p2) (.ref a) (.ref s2.heap.objs.size)) (EP X pins σ Q) X.xe _
  refine tail_any (ops := [.ref a, .ref s2.heap.objs.size]) ht.typeIs PyProof.Rows.slot_tuple_getitem.lookup ?_ (by with_unfolding_all rfl)
  refine getItem_tuple_rev ht (Heap.IsSliceOf.new ..) ?_ (by rw [hlen]; exact hz)
  refine ⟨.ref _, _, I3.laid (t' := s2.toks) (o := .tup xs.reverse) (fun b ob q => Heap.get?_push_of_some _ q) (Nat.le_refl _) ?_, rfl, q _ (I3.hok.fresh (Nat.le_refl _))⟩
  exact ⟨by rw [List.length_reverse]; exact hz, _, r.reverse, IsTup.new _ _⟩
@[simp] def mRev (a k : ME) : ME := fun s st => (a s st).bind fun x st1 => (k s st1).bind fun y st2 => match x, y with
  | .tup ws, .int i => if i = -1 then .ok (.tup ws.reverse) st2 else .stuck
  | _, _ => .stuck
section
variable {X : Cx} {Cl : Nat → Addr} {E : XK} {pos p2 : Pos} {ma mk : ME} {a k : Expr}
theorem je_rev (ha : JE X Cl E a ma) (hk : JE X Cl E k mk) : JE X Cl E (.Subscript a (.Slice none none (some k) p2) pos) (mRev ma mk) := by
  obtain ⟨_, p1, q1⟩ := ha.ex
  obtain ⟨_, p2, q2⟩ := hk.ex
  refine ⟨_, pe_rev p1 p2, fun β H σ s st Q hr hs h => q1 β H σ s st _ hr hs (h.bind fun x st1 β1 H1 v _ e1 hr1 rx1 h1 => q2 β1 H1 σ s st1 _ hr1 (hs.ext e1) (h1.bind fun y st2 β2 H2 u _ e2 hr2 ry h2 => ?_))⟩
  have rx := rx1.ext e2
  split at h2
  · split at h2
    · rename_i hi
      subst hi
      cases ry
      cases rx with
      | @tup p ws vs h3 r3 => exact ⟨rfl, p, vs, rfl, h3, fun l hl => Po.tup h2 hr2 hl r3.reverse⟩
    · exact h2.elim
  · exact h2.elim
end
/-- t * k of a tuple, k from 2 on -/
@[simp] def mMulT : M2 := fun x y st => match x, y with
  | .tup ws, .int k => if ws ≠ [] ∧ 2 ≤ k ∧ k ≤ 1000 ∧ ws.length ≤ 1000 then .ok (.tup (List.replicate k.toNat ws).flatten) st else .stuck
  | _, _ => .stuck
theorem o_mulT {X : Cx} {Cl : Nat → Addr} {E : XK} : OpR X (binaryOp .Mult) (rRepT X.K) ∧ SOp X.K Cl E (rRepT X.K) mMulT := by
  refine ⟨op_repT, fun β H st x y v u Q hr rx ry h => ?_⟩
  unfold mMulT at h
  split at h
  · split at h
    · rename_i hz
      cases ry
      cases rx with
      | @tup p ws vs h3 r3 => exact ⟨p, _, vs, rfl, rfl, h3, (fun e => hz.1 (by subst e; cases r3; rfl)), hz.2.1, hz.2.2.1, by rw [← r3.length]; exact hz.2.2.2, fun l hl => Po.tup h hr hl (r3.rep _)⟩
    · exact h.elim
  · exact h.elim
end Mi
/-! The mirror layer, part N: d.get(k, x); a dict of the module with texts as keys and numbers as values. -/
namespace Mi
open PySem L2 PyProof.Rows
@[simp] def mDGet2 (d k x : ME) : ME := fun s st => (d s st).bind fun a st1 => match a with
  | .ref j => match st1[j]? with
    | some (.dK _) => (k s st1).bind fun y st2 => (x s st2).bind fun z st3 => match st3[j]?, toKey y with
      | some (.dK kvs), some k => .ok ((valW kvs k).getD z) st3
      | _, _ => .stuck
    | _ => .stuck
  | _ => .stuck
section
variable {X : Cx} {Cl : Nat → Addr} {E : XK} {pos p apos cpos : Pos} {md mk mx : ME} {o e f : Expr}
theorem je_dget2 (hu : X.A.units + 1 < cLine) (ho : JE X Cl E o md) (he : JE X Cl E e mk) (hf : JE X Cl E f mx) (m : L2.M2 X o "get" apos e f cpos := by exact ⟨rfl, rfl, rfl, rfl⟩) : JE X Cl E (.Call (.Attribute o "get" apos) [e, f] [] cpos) (mDGet2 md mk mx) := by
  obtain ⟨_, p1, q1⟩ := ho.ex
  obtain ⟨_, p2, q2⟩ := he.ex
  obtain ⟨_, p3, q3⟩ := hf.ex
  refine ⟨_, pe_dget2 hu p1 p2 p3 m, fun β H σ s st Q hr hs h => q1 β H σ s st _ hr hs (h.bind fun x st1 β1 H1 v _ e1 hr1 rx1 h1 => ?_)⟩
  cases x with
  | ref j =>
    simp only at h1
    split at h1
    · rename_i kv1 es1
      obtain ⟨a, rfl, _, gs1, hg1, -⟩ := rx1.atRef hr1 es1 (by intro z; cases z)
      refine ⟨a, rfl, .inl ⟨gs1, .inl hg1⟩, q2 β1 H1 σ s st1 _ hr1 (hs.ext e1) (h1.bind fun y st2 β2 H2 u _ e2 hr2 ry2 h2 => q3 β2 H2 σ s st2 _ hr2 ((hs.ext e1).ext e2) (h2.bind fun z st3 β3 H3 t _ e3 hr3 rz h3 => ?_))⟩
      have rx := rx1.ext (e2.trans e3)
      have ry := ry2.ext e3
      split at h3
      · rename_i kvs k es ek
        obtain ⟨a', ea, _, gs, hg, hrs⟩ := rx.atRef hr3 es (by intro z; cases z)
        cases ea
        cases ev : valW kvs k with
        | none =>
          rw [ev] at h3
          exact ⟨none, .inl ⟨gs, k, .inl hg, toKey_ok ry ek, (hrs.valN ev).symm⟩, PoG.val h3 hr3 rz⟩
        | some w =>
          rw [ev] at h3
          obtain ⟨v, hv, rv⟩ := hrs.val ev
          exact ⟨some v, .inl ⟨gs, k, .inl hg, toKey_ok ry ek, hv.symm⟩, PoG.val h3 hr3 rv⟩
      · exact h3.elim
    · exact h1.elim
  | _ => exact h1.elim
end
/-! ### a dict of the module -/
abbrev TabZ := List (Str × Option Int)
def lookZ (tz : TabZ) (z : Str) : Option (Option Int) := (tz.find? fun p => decide (p.1 = z)).map (·.2)
structure KDt (K : PySem.W.Frag) (w : World) (d : Addr) (tz : TabZ) : Prop where
  D : ∃ es n, KDict K w d es n
  n : ∀ z, lookZ tz z = some none → PySem.W.nsIn K d z = some none
  i : ∀ z i, lookZ tz z = some (some i) → ∃ t, PySem.W.nsIn K d z = some (some (.int i t))
theorem KDt.nil {K : PySem.W.Frag} {w : World} {d : Addr} {es : Array DictEntry} {n : Nat} (D : KDict K w d es n) : KDt K w d [] := ⟨⟨es, n, D⟩, fun z h => by simp [lookZ] at h, fun z i h => by simp [lookZ] at h⟩
theorem lookZ_cons (z : Str) (o : Option Int) (tz : TabZ) (y : Str) : lookZ ((z, o) :: tz) y = if z = y then some o else lookZ tz y := by
  unfold lookZ
  rw [List.find?_cons]
  by_cases h : z = y
  · simp [h]
  · simp [h]
theorem KDt.cn {K : PySem.W.Frag} {w : World} {d : Addr} {tz : TabZ} {z : Str} (T : KDt K w d tz) (h : PySem.W.nsIn K d z = some none) : KDt K w d ((z, none) :: tz) := by
  refine ⟨T.D, fun y e => ?_, fun y i e => ?_⟩
  · rw [lookZ_cons] at e
    split at e
    · rename_i hz; subst hz; exact h
    · exact T.n y e
  · rw [lookZ_cons] at e
    split at e
    · cases e
    · exact T.i y i e
theorem KDt.ci {K : PySem.W.Frag} {w : World} {d : Addr} {tz : TabZ} {z : Str} {i : Int} {t : Tok} (T : KDt K w d tz) (h : PySem.W.nsIn K d z = some (some (.int i t))) : KDt K w d ((z, some i) :: tz) := by
  refine ⟨T.D, fun y e => ?_, fun y j e => ?_⟩
  · rw [lookZ_cons] at e
    split at e
    · cases e
    · exact T.n y e
  · rw [lookZ_cons] at e
    split at e
    · rename_i hz
      subst hz
      cases e
      exact ⟨t, h⟩
    · exact T.i y j e
@[simp] def mInT (tz : TabZ) (a : ME) : ME := fun s st => (a s st).bind fun x st1 => match x with
  | .str z => match lookZ tz z with
    | some o => .ok (.bl o.isSome) st1
    | none => .stuck
  | _ => .stuck
@[simp] def mNotInT (tz : TabZ) (a : ME) : ME := fun s st => (a s st).bind fun x st1 => match x with
  | .str z => match lookZ tz z with
    | some o => .ok (.bl (!o.isSome)) st1
    | none => .stuck
  | _ => .stuck
@[simp] def mItemT (tz : TabZ) (a : ME) : ME := fun s st => (a s st).bind fun x st1 => match x with
  | .str z => match lookZ tz z with
    | some (some i) => .ok (.int i) st1
    | _ => .stuck
  | _ => .stuck
theorem KDt.look {K : PySem.W.Frag} {w : World} {d : Addr} {tz : TabZ} (T : KDt K w d tz) {z : Str} {o : Option Int} (h : lookZ tz z = some o) : ∃ r, PySem.W.nsIn K d z = some r ∧ r.isSome = o.isSome := by
  cases o with
  | none => exact ⟨none, T.n z h, rfl⟩
  | some i =>
    obtain ⟨t, e⟩ := T.i z i h
    exact ⟨_, e, rfl⟩
section
variable {X : Cx} {Cl : Nat → Addr} {E : XK} {pos p : Pos} {ma : ME} {a : Expr} {d : Addr} {x : Str} {tz : TabZ}
theorem se_inT {t : TE} (T : KDt X.K X.w d tz) (q1 : SE X.K Cl E t ma) : SE X.K Cl E (tOp (fun x y H Q => ∃ (z : Str) (r : Option Value), x = .str z ∧ y = .ref d ∧ PySem.W.nsIn X.K d z = some r ∧ Q (.bl r.isSome) H) t (tC (.ref d))) (mInT tz ma) :=
  fun β H σ s st Q hr hs h => q1 β H σ s st _ hr hs (h.bind fun y st1 β1 H1 v _ e1 hr1 ry h1 => by
    split at h1
    · split at h1
      · rename_i z o ho
        cases ry
        obtain ⟨r, e, er⟩ := T.look ho
        exact ⟨_, r, rfl, rfl, e, by rw [er]; exact PoG.val h1 hr1 (.bl _)⟩
      · exact h1.elim
    · exact h1.elim)
theorem se_notInT {t : TE} (T : KDt X.K X.w d tz) (q1 : SE X.K Cl E t ma) : SE X.K Cl E (tOp (fun x y H Q => ∃ (z : Str) (r : Option Value), x = .str z ∧ y = .ref d ∧ PySem.W.nsIn X.K d z = some r ∧ Q (.bl (!r.isSome)) H) t (tC (.ref d))) (mNotInT tz ma) :=
  fun β H σ s st Q hr hs h => q1 β H σ s st _ hr hs (h.bind fun y st1 β1 H1 v _ e1 hr1 ry h1 => by
    split at h1
    · split at h1
      · rename_i z o ho
        cases ry
        obtain ⟨r, e, er⟩ := T.look ho
        exact ⟨_, r, rfl, rfl, e, by rw [er]; exact PoG.val h1 hr1 (.bl _)⟩
      · exact h1.elim
    · exact h1.elim)
theorem je_inT (T : KDt X.K X.w d tz) (hm : X.mg x = some (.ref d)) (ha : JE X Cl E a ma) (hg : Gl X x := by rfl) (hd : (x == ("__debug__" : Str)) = false := by decide) (hb : behindInMarks .In (.Name x p) = false := by rfl) : JE X Cl E (.Compare a [.In] [.Name x p] pos) (mInT tz ma) := by
  obtain ⟨t, p1, q1⟩ := ha.ex
  obtain ⟨es, n, D⟩ := T.D
  exact ⟨_, pe_cmpR (op_in_kd D) p1 (pe_glob (v := .ref d) hg hm rfl hd) hb, se_inT T q1⟩
theorem je_notInT (T : KDt X.K X.w d tz) (hm : X.mg x = some (.ref d)) (ha : JE X Cl E a ma) (hg : Gl X x := by rfl) (hd : (x == ("__debug__" : Str)) = false := by decide) (hb : behindInMarks .NotIn (.Name x p) = false := by rfl) : JE X Cl E (.Compare a [.NotIn] [.Name x p] pos) (mNotInT tz ma) := by
  obtain ⟨t, p1, q1⟩ := ha.ex
  obtain ⟨es, n, D⟩ := T.D
  exact ⟨_, pe_cmpR (op_notIn_kd D) p1 (pe_glob (v := .ref d) hg hm rfl hd) hb, se_notInT T q1⟩
theorem jt_inT (T : KDt X.K X.w d tz) (hm : X.mg x = some (.ref d)) (ha : JE X Cl E a ma) (hg : Gl X x := by rfl) (hd : (x == ("__debug__" : Str)) = false := by decide) (hb : behindInMarks .In (.Name x p) = false := by rfl) : JT X Cl E (.Compare a [.In] [.Name x p] pos) (mTest (mInT tz ma)) := by
  obtain ⟨t, p1, q1⟩ := ha.ex
  obtain ⟨es, n, D⟩ := T.D
  exact ⟨_, pt_cmpR (op_in_kd D) p1 (pe_glob (v := .ref d) hg hm rfl hd) hb, st_test (se_inT T q1)⟩
theorem jt_notInT (T : KDt X.K X.w d tz) (hm : X.mg x = some (.ref d)) (ha : JE X Cl E a ma) (hg : Gl X x := by rfl) (hd : (x == ("__debug__" : Str)) = false := by decide) (hb : behindInMarks .NotIn (.Name x p) = false := by rfl) : JT X Cl E (.Compare a [.NotIn] [.Name x p] pos) (mTest (mNotInT tz ma)) := by
  obtain ⟨t, p1, q1⟩ := ha.ex
  obtain ⟨es, n, D⟩ := T.D
  exact ⟨_, pt_cmpR (op_notIn_kd D) p1 (pe_glob (v := .ref d) hg hm rfl hd) hb, st_test (se_notInT T q1)⟩
theorem je_itemT (T : KDt X.K X.w d tz) (hm : X.mg x = some (.ref d)) (ha : JE X Cl E a ma) (hg : Gl X x := by rfl) (hd : (x == ("__debug__" : Str)) = false := by decide) (hs : PlainIx a := by exact fun _ _ => rfl) : JE X Cl E (.Subscript (.Name x p) a pos) (mItemT tz ma) := by
  obtain ⟨t, p1, q1⟩ := ha.ex
  obtain ⟨es, n, D⟩ := T.D
  refine ⟨_, pe_ix ix_kdict (pe_glob (v := .ref d) hg hm rfl hd) p1 hs, fun β H σ s st Q hr hs h => q1 β H σ s st _ hr hs (h.bind fun y st1 β1 H1 v _ e1 hr1 ry h1 => ?_)⟩
  split at h1
  · split at h1
    · rename_i z he _ i ho
      cases ry
      obtain ⟨t, e⟩ := T.i _ _ ho
      exact ⟨d, z, .int i, rfl, rfl, ⟨es, n, _, D.at_, D.lit, e, ⟨t, rfl⟩⟩, PoG.val h1 hr1 (.int _)⟩
    · exact h1.elim
  · exact h1.elim
end
end Mi
/-! The mirror layer, part M: t * k of a tuple for k = 0 and k = 1, too. -/
namespace L2
open PySem PySem.Spec PyProof.Rows
theorem tuple_mul1 (l : Addr) (items : Array Value) (n : Nat) (dd : Option Addr) (sl : Array (Option Value)) (u : Tok) :
    Meets (Builtin.«tuple.__mul__» ⟨[.ref l, .int 1 u], []⟩) (fun _ R s => s.heap.get? l = some { cls := .type "tuple", dict := dd, data := .seq items n, slots := sl } ∧ R (.ok (.ret (Value.ref l))) s) :=
  .of_wp fun prog w A R s h => by
    obtain ⟨hp, g, d, tk, os⟩ := s
    obtain ⟨hl, h⟩ := h
    have f1 := AutoSeq1.idx_int
    have hT : (⟨hp, g, d, tk, os⟩ : Shared).TypeIs (.ref l) "tuple" := ⟨_, hl, rfl⟩
    have c1 : (items.isEmpty || ((1 : Int) == 1)) = true := by simp
    wp_walk using wpAny_loadPart' hl
    exact ⟨_, rfl, h⟩
theorem tuple_mul0 (l : Addr) (items : Array Value) (n : Nat) (dd : Option Addr) (sl : Array (Option Value)) (u : Tok) (hi : items.isEmpty = false) :
    Meets (Builtin.«tuple.__mul__» ⟨[.ref l, .int 0 u], []⟩) (fun _ R s => s.heap.get? l = some { cls := .type "tuple", dict := dd, data := .seq items n, slots := sl } ∧
      R (.ok (.ret (Value.ref s.heap.objs.size))) { s with heap := s.heap.push { cls := Value.type "tuple", data := Data.seq #[] }, toks := s.toks }) :=
  .of_wp fun prog w A R s h => by
    obtain ⟨hp, g, d, tk, os⟩ := s
    obtain ⟨hl, h⟩ := h
    have f1 := AutoSeq1.idx_int
    wp_walk using wpAny_loadPart' hl
    exact ⟨_, rfl, h⟩
def rRepS (K : PySem.W.Frag) : R2 := fun x y H Q => ∃ l xs, x = .ref l ∧ SqT K H l xs ∧ xs ≠ [] ∧ ((y = .int 1 ∧ Q (.ref l) H) ∨ (y = .int 0 ∧ ∀ p, H p = none → Q (.ref p) (upd H p (.tup []))))
theorem op_repS {X : Cx} : OpR X (binaryOp .Mult) (rRepS X.K) := by
  intro pins s σ H x y v u Q I rx ry h
  obtain ⟨l, xs, rfl, hT, hne, h⟩ := h
  cases rx
  obtain ⟨its, r, ⟨⟨cls, dd, data, sl⟩, ho, hc, n, hd⟩, hs⟩ := I.tuple hT
  simp only at hc hd
  subst hc hd
  have hi : its.toArray.isEmpty = false := by
    cases its with
    | nil => cases r; exact absurd rfl hne
    | cons a b => rfl
  rcases h with ⟨rfl, q⟩ | ⟨rfl, q⟩
  · obtain ⟨t, rfl⟩ := ry
    refine wpAny_binaryOp_repeat_ref (T := "tuple") (U := "int") (by decide) ⟨_, ho, rfl⟩ (fun s' => typeIs_int s' 1 t) noFill_tuple_mul F.fills_int_mul F.slot_int_rmul repeat_tuple F.slot_int_index.lookup
      (call_meets F.slot_int_rmul (typeIs_int s 1 t) F.entry_int_rmul (F.args_int_rmul_2 _ _) (int_rmul_tuple 1 t l its.toArray n dd sl)
        ⟨ho, rfl, ⟨_, ho, rfl⟩, call_meets F.slot_tuple_mul ⟨_, ho, rfl⟩ F.entry_tuple_mul (F.args_tuple_mul_2 _ _) (tuple_mul1 l its.toArray n dd sl t) ⟨ho, ?_⟩⟩)
    exact ⟨.ref l, H, I, rfl, q⟩
  · obtain ⟨t, rfl⟩ := ry
    refine wpAny_binaryOp_repeat_ref (T := "tuple") (U := "int") (by decide) ⟨_, ho, rfl⟩ (fun s' => typeIs_int s' 0 t) noFill_tuple_mul F.fills_int_mul F.slot_int_rmul repeat_tuple F.slot_int_index.lookup
      (call_meets F.slot_int_rmul (typeIs_int s 0 t) F.entry_int_rmul (F.args_int_rmul_2 _ _) (int_rmul_tuple 0 t l its.toArray n dd sl)
        ⟨ho, rfl, ⟨_, ho, rfl⟩, call_meets F.slot_tuple_mul ⟨_, ho, rfl⟩ F.entry_tuple_mul (F.args_tuple_mul_2 _ _) (tuple_mul0 l its.toArray n dd sl t hi) ⟨ho, ?_⟩⟩)
    refine ⟨.ref s.heap.objs.size, _, I.laid (t' := s.toks) (o := .tup []) (fun b ob q => Heap.get?_push_of_some _ q) (Nat.le_refl _) ?_, rfl, q _ (I.hok.fresh (Nat.le_refl _))⟩
    exact ⟨by simp, [], .nil, IsTup.new _ _⟩
end L2
namespace Mi
open PySem L2 PyProof.Rows
/-- t * k of a tuple that is not empty, k from 0 to 1000 -/
@[simp] def mMulR : M2 := fun x y st => match x, y with
  | .tup ws, .int k => if ws ≠ [] ∧ 0 ≤ k ∧ k ≤ 1000 ∧ ws.length ≤ 1000 then .ok (.tup (List.replicate k.toNat ws).flatten) st else .stuck
  | _, _ => .stuck
theorem o_mulR {X : Cx} {Cl : Nat → Addr} {E : XK} : OpR X (binaryOp .Mult) (fun x y H Q => rRepT X.K x y H Q ∨ rRepS X.K x y H Q) ∧ SOp X.K Cl E (fun x y H Q => rRepT X.K x y H Q ∨ rRepS X.K x y H Q) mMulR := by
  refine ⟨op_repT.or op_repS, fun β H st x y v u Q hr rx ry h => ?_⟩
  unfold mMulR at h
  split at h
  · rename_i ws k
    split at h
    · rename_i hz
      obtain ⟨h0, h1, h2, h3⟩ := hz
      cases ry
      cases rx with
      | @tup p ws vs h4 r4 =>
        have hn : vs ≠ [] := fun e => h0 (by subst e; cases r4; rfl)
        by_cases k2 : 2 ≤ k
        · exact .inl ⟨p, _, vs, rfl, rfl, h4, hn, k2, h2, by rw [← r4.length]; exact h3, fun l hl => Po.tup h hr hl (r4.rep _)⟩
        · have : k = 0 ∨ k = 1 := by omega
          rcases this with rfl | rfl
          · exact .inr ⟨p, vs, rfl, h4, hn, .inr ⟨rfl, fun l hl => Po.tup h hr hl .nil⟩⟩
          · refine .inr ⟨p, vs, rfl, h4, hn, .inl ⟨rfl, PoG.val h hr (.tup h4 ?_)⟩⟩
            simpa using r4
    · exact h.elim
  · exact h.elim
end Mi
/-! The mirror layer, part O: bit_length; k in d, k not in d; (..) in d, (..) not in d, d[(..)]. -/
namespace Mi
open PySem L2 PyProof.Rows
@[simp] def mBits (o : ME) : ME := fun s st => (o s st).bind fun x st1 => match x with
  | .int i => .ok (.int ((Builtin.Int.intBits i : Nat) : Int)) st1
  | _ => .stuck
@[simp] def mDIn (k d : ME) : ME := fun s st => (k s st).bind fun y st1 => (d s st1).bind fun x st2 => match x with
  | .ref r => match st2[r]?, toKey y with
    | some (.dK kvs), some k => .ok (.bl (valW kvs k).isSome) st2
    | _, _ => .stuck
  | _ => .stuck
@[simp] def mDNotIn (k d : ME) : ME := fun s st => (k s st).bind fun y st1 => (d s st1).bind fun x st2 => match x with
  | .ref r => match st2[r]?, toKey y with
    | some (.dK kvs), some k => .ok (.bl (!(valW kvs k).isSome)) st2
    | _, _ => .stuck
  | _ => .stuck
@[simp] def mTIn (k : MA) (d : ME) : ME := fun s st => (k s st).bind fun ks st1 => if ks.length ≤ sizeLine then (d s st1).bind fun x st2 => match x with
  | .ref r => match st2[r]?, keysT ks with
    | some (.dT kvs), some k => .ok (.bl (valW kvs k).isSome) st2
    | _, _ => .stuck
  | _ => .stuck
  else .stuck
@[simp] def mTNotIn (k : MA) (d : ME) : ME := fun s st => (k s st).bind fun ks st1 => if ks.length ≤ sizeLine then (d s st1).bind fun x st2 => match x with
  | .ref r => match st2[r]?, keysT ks with
    | some (.dT kvs), some k => .ok (.bl (!(valW kvs k).isSome)) st2
    | _, _ => .stuck
  | _ => .stuck
  else .stuck
@[simp] def mTGet (d : ME) (k : MA) : ME := fun s st => (d s st).bind fun x st1 => (k s st1).bind fun ks st2 => match x with
  | .ref r => match st2[r]?, keysT ks with
    | some (.dT kvs), some k => match valW kvs k with
      | some w => if ks.length ≤ sizeLine then .ok w st2 else .stuck
      | none => .stuck
    | _, _ => .stuck
  | _ => .stuck
theorem RF.opt {K : PySem.W.Frag} {β : Bt} {H : Hp} {κ : Type} [DecidableEq κ] {k : κ} {kvs : List (κ × W)} {gs : List (κ × V)} (r : RF K β H kvs gs) : (valV gs k).isSome = (valW kvs k).isSome := by
  cases h : valW kvs k with
  | none => rw [r.valN h]; rfl
  | some w =>
    obtain ⟨v, hv, _⟩ := r.val h
    rw [hv]; rfl
section
variable {X : Cx} {Cl : Nat → Addr} {E : XK} {pos tpos apos : Pos} {o e i : Expr} {es : List Expr} {n : Nat} {mo md mi : ME} {mk : MA}
theorem je_bits (ho : JE X Cl E o mo) (hbase : attributeBase o "bit_length" X.env (eval o X.env) = eval o X.env := by rfl) (hline : (apos.endLine == pos.line) = true := by rfl) : JE X Cl E (.Call (.Attribute o "bit_length" apos) [] [] pos) (mBits mo) := by
  obtain ⟨_, p1, q1⟩ := ho.ex
  refine ⟨_, pe_bits p1 hbase hline, fun β H σ s st Q hr hs h => q1 β H σ s st _ hr hs (h.bind fun x st1 β1 H1 v _ e1 hr1 rx h1 => ?_)⟩
  cases x with
  | int i => cases rx; exact ⟨i, rfl, PoG.val h1 hr1 (.int _)⟩
  | _ => exact h1.elim
theorem se_din {ty td : TE} (q1 : SE X.K Cl E ty mi) (q2 : SE X.K Cl E td md) : SE X.K Cl E (tDIn ty td) (mDIn mi md) :=
  fun β H σ s st Q hr hs h => q1 β H σ s st _ hr hs (h.bind fun y st1 β1 H1 u _ e1 hr1 ry h1 => q2 β1 H1 σ s st1 _ hr1 (hs.ext e1) (h1.bind fun x st2 β2 H2 v _ e2 hr2 rx h2 => by
    cases x with
    | ref r =>
      simp only at h2
      split at h2
      · rename_i kvs k es ek
        obtain ⟨a, rfl, _, gs, hg, hrs⟩ := rx.atRef hr2 es (by intro z; cases z)
        exact ⟨a, _, rfl, .inl ⟨gs, k, .inl hg, toKey_ok (ry.ext e2) ek, rfl⟩, by rw [hrs.opt]; exact PoG.val h2 hr2 (.bl _)⟩
      · exact h2.elim
    | _ => exact h2.elim))
theorem se_dnotin {ty td : TE} (q1 : SE X.K Cl E ty mi) (q2 : SE X.K Cl E td md) : SE X.K Cl E (tDNotIn ty td) (mDNotIn mi md) :=
  fun β H σ s st Q hr hs h => q1 β H σ s st _ hr hs (h.bind fun y st1 β1 H1 u _ e1 hr1 ry h1 => q2 β1 H1 σ s st1 _ hr1 (hs.ext e1) (h1.bind fun x st2 β2 H2 v _ e2 hr2 rx h2 => by
    cases x with
    | ref r =>
      simp only at h2
      split at h2
      · rename_i kvs k es ek
        obtain ⟨a, rfl, _, gs, hg, hrs⟩ := rx.atRef hr2 es (by intro z; cases z)
        exact ⟨a, _, rfl, .inl ⟨gs, k, .inl hg, toKey_ok (ry.ext e2) ek, rfl⟩, by rw [hrs.opt]; exact PoG.val h2 hr2 (.bl _)⟩
      · exact h2.elim
    | _ => exact h2.elim))
theorem je_din (hu : X.A.units + 1 < cLine) (hi : JE X Cl E i mi) (ho : JE X Cl E o md) (hb : behindInMarks .In o = false := by rfl) : JE X Cl E (.Compare i [.In] [o] pos) (mDIn mi md) := by
  obtain ⟨_, p1, q1⟩ := hi.ex
  obtain ⟨_, p2, q2⟩ := ho.ex
  exact ⟨_, pe_cmp (pc_din hu p1 p2) hb, se_din q1 q2⟩
theorem jt_din (hu : X.A.units + 1 < cLine) (hi : JE X Cl E i mi) (ho : JE X Cl E o md) (hb : behindInMarks .In o = false := by rfl) : JT X Cl E (.Compare i [.In] [o] pos) (mTest (mDIn mi md)) := by
  obtain ⟨_, p1, q1⟩ := hi.ex
  obtain ⟨_, p2, q2⟩ := ho.ex
  exact ⟨_, pt_cmp (pc_din hu p1 p2) hb, st_test (se_din q1 q2)⟩
theorem je_dnotin (hu : X.A.units + 1 < cLine) (hi : JE X Cl E i mi) (ho : JE X Cl E o md) (hb : behindInMarks .NotIn o = false := by rfl) : JE X Cl E (.Compare i [.NotIn] [o] pos) (mDNotIn mi md) := by
  obtain ⟨_, p1, q1⟩ := hi.ex
  obtain ⟨_, p2, q2⟩ := ho.ex
  exact ⟨_, pe_cmp (pc_dnotin hu p1 p2) hb, se_dnotin q1 q2⟩
theorem jt_dnotin (hu : X.A.units + 1 < cLine) (hi : JE X Cl E i mi) (ho : JE X Cl E o md) (hb : behindInMarks .NotIn o = false := by rfl) : JT X Cl E (.Compare i [.NotIn] [o] pos) (mTest (mDNotIn mi md)) := by
  obtain ⟨_, p1, q1⟩ := hi.ex
  obtain ⟨_, p2, q2⟩ := ho.ex
  exact ⟨_, pt_cmp (pc_dnotin hu p1 p2) hb, st_test (se_dnotin q1 q2)⟩
theorem se_tin {ta : TA} {td : TE} (q1 : ∀ β H σ s st Q, HR X.K Cl β H st → SR X.K β H s σ → PoG X.K Cl (fun β H a b => RVs X.K β H a b) E β H Q (mk s st) → ta σ H Q) (q2 : SE X.K Cl E td md) : SE X.K Cl E (tDIn (tTup ta) td) (mTIn mk md) := by
  intro β H σ s st Q hr hs h
  refine q1 β H σ s st _ hr hs (h.bind fun ks st1 β1 H1 vs _ e1 hr1 rk h1 => ?_)
  split at h1
  · rename_i hz
    refine ⟨by rw [← rk.length]; exact hz, fun p hp => ?_⟩
    have ep : Ext X.K β1 H1 (β1.guard p) (upd H1 p (.tup vs)) := Ext.guard hp
    refine q2 (β1.guard p) _ σ s st1 _ (hr1.guard hp) ((hs.ext e1).ext ep) ((PoG.ext ep h1).bind fun x st2 β2 H2 v _ e2 hr2 rx h2 => ?_)
    cases x with
    | ref r =>
      simp only at h2
      split at h2
      · rename_i kvs k es ek
        obtain ⟨a, rfl, _, gs, hg, hrs⟩ := rx.atRef hr2 es (by intro z; cases z)
        refine ⟨a, _, rfl, .inr ⟨gs, k, p, .inl hg, rfl, ?_, rfl⟩, by rw [hrs.opt]; exact PoG.val h2 hr2 (.bl _)⟩
        have := (e2.prot p List.mem_cons_self _ upd_same).2
        rw [keysT_ok rk ek] at this
        exact this
      · exact h2.elim
    | _ => exact h2.elim
  · exact h1.elim
theorem se_tnotin {ta : TA} {td : TE} (q1 : ∀ β H σ s st Q, HR X.K Cl β H st → SR X.K β H s σ → PoG X.K Cl (fun β H a b => RVs X.K β H a b) E β H Q (mk s st) → ta σ H Q) (q2 : SE X.K Cl E td md) : SE X.K Cl E (tDNotIn (tTup ta) td) (mTNotIn mk md) := by
  intro β H σ s st Q hr hs h
  refine q1 β H σ s st _ hr hs (h.bind fun ks st1 β1 H1 vs _ e1 hr1 rk h1 => ?_)
  split at h1
  · rename_i hz
    refine ⟨by rw [← rk.length]; exact hz, fun p hp => ?_⟩
    have ep : Ext X.K β1 H1 (β1.guard p) (upd H1 p (.tup vs)) := Ext.guard hp
    refine q2 (β1.guard p) _ σ s st1 _ (hr1.guard hp) ((hs.ext e1).ext ep) ((PoG.ext ep h1).bind fun x st2 β2 H2 v _ e2 hr2 rx h2 => ?_)
    cases x with
    | ref r =>
      simp only at h2
      split at h2
      · rename_i kvs k es ek
        obtain ⟨a, rfl, _, gs, hg, hrs⟩ := rx.atRef hr2 es (by intro z; cases z)
        refine ⟨a, _, rfl, .inr ⟨gs, k, p, .inl hg, rfl, ?_, rfl⟩, by rw [hrs.opt]; exact PoG.val h2 hr2 (.bl _)⟩
        have := (e2.prot p List.mem_cons_self _ upd_same).2
        rw [keysT_ok rk ek] at this
        exact this
      · exact h2.elim
    | _ => exact h2.elim
  · exact h1.elim
theorem je_tin (hu : X.A.units + 1 < cLine) (hi : JA X Cl E es mk) (ho : JE X Cl E o md) (hb : behindInMarks .In o = false := by rfl) : JE X Cl E (.Compare (.Tuple es n tpos) [.In] [o] pos) (mTIn mk md) := by
  obtain ⟨_, p1, q1⟩ := hi.ex
  obtain ⟨_, p2, q2⟩ := ho.ex
  exact ⟨_, pe_cmp (pc_din hu (pe_tup p1) p2) hb, se_tin q1 q2⟩
theorem jt_tin (hu : X.A.units + 1 < cLine) (hi : JA X Cl E es mk) (ho : JE X Cl E o md) (hb : behindInMarks .In o = false := by rfl) : JT X Cl E (.Compare (.Tuple es n tpos) [.In] [o] pos) (mTest (mTIn mk md)) := by
  obtain ⟨_, p1, q1⟩ := hi.ex
  obtain ⟨_, p2, q2⟩ := ho.ex
  exact ⟨_, pt_cmp (pc_din hu (pe_tup p1) p2) hb, st_test (se_tin q1 q2)⟩
theorem je_tnotin (hu : X.A.units + 1 < cLine) (hi : JA X Cl E es mk) (ho : JE X Cl E o md) (hb : behindInMarks .NotIn o = false := by rfl) : JE X Cl E (.Compare (.Tuple es n tpos) [.NotIn] [o] pos) (mTNotIn mk md) := by
  obtain ⟨_, p1, q1⟩ := hi.ex
  obtain ⟨_, p2, q2⟩ := ho.ex
  exact ⟨_, pe_cmp (pc_dnotin hu (pe_tup p1) p2) hb, se_tnotin q1 q2⟩
theorem jt_tnotin (hu : X.A.units + 1 < cLine) (hi : JA X Cl E es mk) (ho : JE X Cl E o md) (hb : behindInMarks .NotIn o = false := by rfl) : JT X Cl E (.Compare (.Tuple es n tpos) [.NotIn] [o] pos) (mTest (mTNotIn mk md)) := by
  obtain ⟨_, p1, q1⟩ := hi.ex
  obtain ⟨_, p2, q2⟩ := ho.ex
  exact ⟨_, pt_cmp (pc_dnotin hu (pe_tup p1) p2) hb, st_test (se_tnotin q1 q2)⟩
theorem je_tget (hu : X.A.units + 1 < cLine) (ho : JE X Cl E o md) (hi : JA X Cl E es mk) (hs : NoSl (.Tuple es n tpos) := by exact fun _ _ => rfl) : JE X Cl E (.Subscript o (.Tuple es n tpos) pos) (mTGet md mk) := by
  obtain ⟨_, p1, q1⟩ := ho.ex
  obtain ⟨_, p2, q2⟩ := hi.ex
  refine ⟨_, pe_dget hu p1 (pe_tup p2) hs, fun β H σ s st Q hr hs h => q1 β H σ s st _ hr hs (h.bind fun x st1 β1 H1 v _ e1 hr1 rx1 h1 => q2 β1 H1 σ s st1 _ hr1 (hs.ext e1) (h1.bind fun ks st2 β2 H2 vs _ e2 hr2 rk h2 => ?_))⟩
  have rx := rx1.ext e2
  cases x with
  | ref j =>
    simp only at h2
    split at h2
    · rename_i kvs k es ek
      split at h2
      · rename_i w ew
        split at h2
        · rename_i hz
          refine ⟨by rw [← rk.length]; exact hz, fun p hp => ?_⟩
          have e3 : Ext X.K β2 H2 β2 (upd H2 p (.tup vs)) := Ext.new hp
          have hr3 : HR X.K Cl β2 (upd H2 p (.tup vs)) st2 := hr2.new hp
          obtain ⟨a, rfl, _, gs, hg, hrs⟩ := (rx.ext e3).atRef hr3 es (by intro z; cases z)
          obtain ⟨v, hv, rv⟩ := hrs.val ew
          exact ⟨a, v, rfl, .inr ⟨gs, k, p, .inl hg, rfl, by rw [upd_same, keysT_ok rk ek], hv.symm⟩, PoG.val (PoG.ext e3 h2) hr3 rv⟩
        · exact h2.elim
      · exact h2.elim
    · exact h2.elim
  | _ => exact h2.elim
end
/-- {} , a dict with numbers and texts as keys -/
@[simp] def mDNewK : ME := fun _ st => .ok (.ref st.length) (st ++ [.dK []])
theorem je_dnewK {X : Cx} {Cl : Nat → Addr} {E : XK} {pos : Pos} : JE X Cl E (.Dict [] [] pos) mDNewK :=
  ⟨_, pe_dnewK, fun β H σ s st Q hr hs h p hp => h _ _ _ (Ext.push hp) (hr.push hp ⟨[], upd_same, .nil⟩) (.ref (by rw [← hr.len]; exact push_last))⟩
end Mi
/-! The mirror layer, part S: zip; a slice or a repeated list as an object; o.f += e; a dict of the module with any constants as values. -/
namespace Mi
open PySem L2
/-! ### lists as objects -/
@[simp] def mMulS : M2 := fun x y st => match y with
  | .int k => match asLM x st with
    | some a => if -(2 ^ 63) ≤ k ∧ k < 2 ^ 63 ∧ a.length * k.toNat ≤ sizeLine then .ok (.ref st.length) (st ++ [.lst (List.replicate k.toNat a).flatten]) else .stuck
    | none => .stuck
  | _ => .stuck
@[simp] def mSlS (a : ME) (lo hi : MO) : ME := fun s st => (a s st).bind fun x st1 => (lo s st1).bind fun l st2 => (hi s st2).bind fun u st3 => match asL x st3 with
  | some ws => .ok (.ref st3.length) (st3 ++ [.lst (cutW ws l u)])
  | none => .stuck
section
variable {X : Cx} {Cl : Nat → Addr} {E : XK} {pos p2 : Pos} {ma mb : ME} {a b e : Expr} {ml mh : MO} {lo hi : Option Expr}
theorem o_mulS : OpR X (binaryOp .Mult) rRep ∧ SOp X.K Cl E rRep mMulS := by
  refine ⟨op_rep, fun β H st x y v u Q hr rx ry h => ?_⟩
  unfold mMulS at h
  split at h
  · split at h
    · split at h
      · rename_i e1 hz
        obtain ⟨p, vs, rfl, h1, r1⟩ := asLM_ok hr rx e1
        cases ry
        exact ⟨p, _, vs, rfl, rfl, h1, hz.1, hz.2.1, by rw [← r1.length]; exact hz.2.2, fun l hl => Po.lstS h hr hl (r1.rep _)⟩
      · exact h.elim
    · exact h.elim
  · exact h.elim
theorem je_slS (ha : JE X Cl E a ma) (hl : JO X Cl E lo ml) (hh : JO X Cl E hi mh) : JE X Cl E (.Subscript a (.Slice lo hi none p2) pos) (mSlS ma ml mh) := by
  obtain ⟨_, p1, q1⟩ := ha.ex
  obtain ⟨_, pl, ql⟩ := hl.ex
  obtain ⟨_, ph, qh⟩ := hh.ex
  refine ⟨_, pe_slice sl_list p1 pl ph, fun β H σ s st Q hr hs h => q1 β H σ s st _ hr hs (h.bind fun x st1 β1 H1 v _ e1 hr1 rx1 h1 => ql β1 H1 σ s st1 _ hr1 (hs.ext e1) (h1.bind fun l st2 β2 H2 l' _ e2 hr2 rl h2 =>
    qh β2 H2 σ s st2 _ hr2 ((hs.ext e1).ext e2) (h2.bind fun u st3 β3 H3 u' _ e3 hr3 ru h3 => ?_)))⟩
  cases rl
  cases ru
  have rx := rx1.ext (e2.trans e3)
  split at h3
  · rename_i ws el
    obtain ⟨p, vs, rfl, h1, r1⟩ := asL_ok hr3 rx el
    exact ⟨p, vs, rfl, h1, fun l hl => Po.lstS h3 hr3 hl (r1.cut _ _)⟩
  · exact h3.elim
end
/-! ### o.f += e -/
@[simp] def mAugF (c : Nat) (f : Str) (o e : ME) (g : Int → Int → Int) : MS := fun s st => (o s st).run fun x st1 => match x with
  | .ref i => match st1[i]? with
    | some (.ins d fs) => if d = c then match fs.lookup f with
        | some (.int a) => (e s st1).run fun y st2 => match y with
          | .int b => match st2[i]? with
            | some (.ins d' fs') => if d' = c ∧ fs'.length < 1000 then .nx s (st2.set i (.ins c (putW f (.int (g a b)) fs'))) else .stuck
            | _ => .stuck
          | _ => .stuck
        | _ => .stuck
      else .stuck
    | _ => .stuck
  | _ => .stuck
section
variable {X : Cx} {Cl : Nat → Addr} {E : XK} {pos : Pos}
theorem js_augF {o e : Expr} {f : Str} {c : Nat} {op : Operator} {g : Int → Int → Int} {tpos : Pos} {mo me : ME} (hc : Cls X.K (Cl c)) (hn : NoAttr X.K (Cl c) f) (hop : InOp X op (ipI g)) (ho : JE X Cl E o mo) (he : JE X Cl E e me) :
    JS X Cl E (.AugAssign (.Attribute o f tpos) op e pos) (mAugF c f mo me g) := by
  obtain ⟨_, p1, q1⟩ := ho.ex
  obtain ⟨_, p2, q2⟩ := he.ex
  refine ⟨_, ps_fldaug p1 p2 hop, fun β H σ s st D hr hs h => q1 β H σ s st _ hr hs (h.run fun x st1 β1 H1 v _ e1 hr1 rx h1 => ?_)⟩
  cases x with
  | ref i =>
    simp only at h1
    split at h1
    · rename_i d fs es
      split at h1
      · rename_i hd
        subst hd
        split at h1
        · rename_i a' el
          obtain ⟨a, rfl, hb, dx, gs, hv, hrs⟩ := rx.atRef hr1 es (by intro z; cases z)
          obtain ⟨v, hl, rv⟩ := hrs.look el
          cases rv
          refine ⟨a, _, dx, gs, _, rfl, hv, hc, hn, hl, q2 β1 H1 σ s st1 _ hr1 (hs.ext e1) (h1.run fun y st2 β2 H2 u _ e2 hr2 ry h2 => ?_)⟩
          cases y with
          | int b' =>
            cases ry
            simp only at h2
            split at h2
            · rename_i d' fs' es'
              split at h2
              · rename_i hd'
                obtain ⟨rfl, hlen⟩ := hd'
                obtain ⟨a2, ea, hb2, dx', gs', hv', hrs'⟩ := (rx.ext e2).atRef hr2 es' (by intro z; cases z)
                cases ea
                have em : Ext X.K β2 H2 β2 (upd H2 a (.ins (Cl d') dx' (putF f (.int (g a' b')) gs'))) := Ext.mut hr2 hb2 hv' trivial
                exact ⟨_, _, rfl, rfl, dx', gs', hv', by rw [← hrs'.length]; exact hlen, h2 β2 _ σ em (hr2.mut hb2 hv' trivial ⟨dx', _, upd_same, (putW_ok (.int _) hrs').ext em⟩) (((hs.ext e1).ext e2).ext em)⟩
              · exact h2.elim
            · exact h2.elim
          | _ => exact h2.elim
        · exact h1.elim
      · exact h1.elim
    · exact h1.elim
  | _ => exact h1.elim
end
end Mi
namespace Mi
open PySem L2
theorem in_addI {X : Cx} : InOp X .Add (ipI fun i j => i + j) := in_add
theorem in_subI {X : Cx} : InOp X .Sub (ipI fun i j => i - j) := in_sub
/-! ### zip -/
theorem walk_zipT {K : PySem.W.Frag} {a b : Addr} {xs ys : List V} {n : Nat} (hn : n = min xs.length ys.length) : Walk (RZ.ItzT K a b) n (fun H => SqT K H a xs ∧ SqT K H b ys) (YPair (fun i => xs[i]?) (fun i => ys[i]?)) := by
  refine ⟨fun i _ hi q => ⟨xs, ys, xs[i]'(by omega), ys[i]'(by omega), q.1, q.2, List.getElem?_eq_getElem _, List.getElem?_eq_getElem _⟩, fun _ q => ⟨xs, ys, q.1, q.2, by omega⟩, fun i H v H' _ q y => ?_⟩
  obtain ⟨T, x, y, h1, h2, h3, h4, h5⟩ := y
  exact ⟨T, x, y, h1, h2, h3, h4 xs q.1, h5 ys q.2⟩
def zipW (xs ys : List W) : List W := (List.range (min xs.length ys.length)).map fun i => .tup [xs.getD i .non, ys.getD i .non]
@[simp] def mIZip (a : MA) : MI := fun s st => (a s st).bind fun xs st1 => match xs with
  | [.tup ws, .tup us] => .ok (.vals (zipW ws us)) st1
  | [.lst ws, .lst us] => .ok (.vals (zipW ws us)) st1
  | _ => .stuck
section
variable {X : Cx} {Cl : Nat → Addr} {E : XK}
theorem walkS_zip {K : PySem.W.Frag} {β : Bt} {H : Hp} {J : It} {G : Hp → Prop} {ws us : List W} {vs ts : List V} (wk : Walk J (min vs.length ts.length) G (YPair (fun i => vs[i]?) (fun i => ts[i]?))) (hG : ∀ β' H', Ext K β H β' H' → G H') (r : RVs K β H ws vs) (q : RVs K β H us ts) :
    WalkS K Cl β H J (.vals (zipW ws us)) := by
  refine ⟨G, _, (show Walk J (zipW ws us).length _ _ from by rw [zipW, List.length_map, List.length_range, r.length, q.length]; exact wk), fun β' H' st e hr _ => hG β' H' e, fun i H1 x H2 β1 st w e hr hw y => ?_⟩
  obtain ⟨T, a, b, rfl, hT, rfl, ha, hb⟩ := y
  have hw' : (zipW ws us)[i]? = some w := hw
  rw [zipW, List.getElem?_map] at hw'
  by_cases hi : i < min ws.length us.length
  · rw [List.getElem?_range hi] at hw'
    cases hw'
    obtain ⟨v, hv, rv⟩ := r.get (show ws[i]? = some (ws[i]'(by omega)) from List.getElem?_eq_getElem _)
    obtain ⟨t, ht, rt⟩ := q.get (show us[i]? = some (us[i]'(by omega)) from List.getElem?_eq_getElem _)
    have ha' : vs[i]? = some a := ha
    have hb' : ts[i]? = some b := hb
    have e1 : a = v := by rw [ha'] at hv; exact Option.some.inj hv
    have e2 : b = t := by rw [hb'] at ht; exact Option.some.inj ht
    subst e1
    subst e2
    have g1 : ws.getD i .non = ws[i]'(by omega) := by simp [List.getD, show i < ws.length by omega]
    have g2 : us.getD i .non = us[i]'(by omega) := by simp [List.getD, show i < us.length by omega]
    refine ⟨Ext.new hT, hr.new hT, ?_⟩
    show RV K β1 _ (W.tup [ws.getD i .non, us.getD i .non]) (V.ref T)
    rw [g1, g2]
    exact RV.newT hT (.cons (rv.ext e) (.cons (rt.ext e) .nil))
  · rw [List.getElem?_eq_none (by simp; omega)] at hw'
    cases hw'
theorem ji_zip {e e2 : Expr} {mr : MA} {p pos tpos : Pos} {elts : List Expr} {kk : Nat} (hm : X.mg "zip" = none) (ha : JA X Cl E [e, e2] mr) (hg : Gl X "zip" := by rfl)
    (hs : starEach [e, e2] X.env = (false, eval e X.env) :: starEach [e2] X.env := by rfl) (hpl : (backTo pos (starEach [e2] X.env)).any (·.1) = false := by rfl) :
    JI X Cl E (.Tuple elts kk tpos) (.Call (.Name "zip" p) [e, e2] [] pos) (mIZip mr) := by
  obtain ⟨t, pr, q⟩ := ha.ex
  refine ⟨_, RZ.pi_zipA hg hm pr hs hpl, fun β H σ s st R hr hs h => q β H σ s st _ hr hs (Out.bindI h fun x st1 β1 H1 v _ e1 hr1 rx h1 => ?_)⟩
  split at h1
  · cases rx with
    | cons ru rr =>
      cases rr with
      | cons rw' rr =>
        cases rr
        cases ru with
        | tup hv r1 =>
          cases rw' with
          | tup hv2 r2 => exact ⟨_, _, _, _, rfl, .inr ⟨hv, hv2, h1 β1 H1 _ (Ext.refl _ _ _) hr1 (walkS_zip (walk_zipT rfl) (fun β' H' e => ⟨e.tup _ _ hv, e.tup _ _ hv2⟩) r1 r2)⟩⟩
  · cases rx with
    | cons ru rr =>
      cases rr with
      | cons rw' rr =>
        cases rr
        cases ru with
        | lst hv hn r1 =>
          cases rw' with
          | lst hv2 hn2 r2 => exact ⟨_, _, _, _, rfl, .inl ⟨SqL.of hv, SqL.of hv2, h1 β1 H1 _ (Ext.refl _ _ _) hr1 (walkS_zip (walk_zip rfl) (fun β' H' e => ⟨SqL.of (e.lst _ _ hv hn).1, SqL.of (e.lst _ _ hv2 hn2).1⟩) r1 r2)⟩⟩
  · exact h1.elim
end
/-! ### a dict of the module, any constants as values -/
abbrev TabW := List (Str × Option W)
def lookT (tz : TabW) (z : Str) : Option (Option W) := (tz.find? fun p => decide (p.1 = z)).map (·.2)
theorem lookT_cons (z : Str) (o : Option W) (tz : TabW) (y : Str) : lookT ((z, o) :: tz) y = if z = y then some o else lookT tz y := by
  unfold lookT
  rw [List.find?_cons]
  by_cases h : z = y
  · simp [h]
  · simp [h]
/-- a constant's value -/
def CV (K : PySem.W.Frag) (w : W) (u : Value) : Prop := ∃ v, RelV v u ∧ ∀ β H, RV K β H w v
structure KDw (K : PySem.W.Frag) (w : World) (d : Addr) (tz : TabW) : Prop where
  D : ∃ es n, KDict K w d es n
  n : ∀ z, lookT tz z = some none → PySem.W.nsIn K d z = some none
  i : ∀ z x, lookT tz z = some (some x) → ∃ u, PySem.W.nsIn K d z = some (some u) ∧ CV K x u
theorem KDw.nil {K : PySem.W.Frag} {w : World} {d : Addr} {es : Array DictEntry} {n : Nat} (D : KDict K w d es n) : KDw K w d [] := ⟨⟨es, n, D⟩, fun z h => by simp [lookT] at h, fun z i h => by simp [lookT] at h⟩
theorem KDw.cn {K : PySem.W.Frag} {w : World} {d : Addr} {tz : TabW} {z : Str} (T : KDw K w d tz) (h : PySem.W.nsIn K d z = some none) : KDw K w d ((z, none) :: tz) := by
  refine ⟨T.D, fun y e => ?_, fun y i e => ?_⟩
  · rw [lookT_cons] at e
    split at e
    · rename_i hz; subst hz; exact h
    · exact T.n y e
  · rw [lookT_cons] at e
    split at e
    · cases e
    · exact T.i y i e
theorem KDw.ci {K : PySem.W.Frag} {w : World} {d : Addr} {tz : TabW} {z : Str} {x : W} {u : Value} (T : KDw K w d tz) (h : PySem.W.nsIn K d z = some (some u)) (c : CV K x u) : KDw K w d ((z, some x) :: tz) := by
  refine ⟨T.D, fun y e => ?_, fun y j e => ?_⟩
  · rw [lookT_cons] at e
    split at e
    · cases e
    · exact T.n y e
  · rw [lookT_cons] at e
    split at e
    · rename_i hz
      subst hz
      cases e
      exact ⟨u, h, c⟩
    · exact T.i y j e
theorem CV.tup {K : PySem.W.Frag} {p : Addr} {o : Obj} {its : Array Value} {n : Nat} {ws : List W} {vs : List V} (hk : K.lookup p = some o) (hc : o.cls = .type "tuple") (hd : o.data = .seq its n) (hz : its.size ≤ sizeLine) (hv : Vals vs its.toList) (r : ∀ β H, RVs K β H ws vs) : CV K (.tup ws) (.ref p) :=
  ⟨.ref p, rfl, fun β H => .tup (.inr ⟨o, its, n, hk, hc, hd, hz, hv⟩) (r β H)⟩
theorem CV.int {K : PySem.W.Frag} (i : Int) (t : Tok) : CV K (.int i) (.int i t) := ⟨.int i, ⟨t, rfl⟩, fun _ _ => .int i⟩
@[simp] def mInV (tz : TabW) (a : ME) : ME := fun s st => (a s st).bind fun x st1 => match x with
  | .str z => match lookT tz z with
    | some o => .ok (.bl o.isSome) st1
    | none => .stuck
  | _ => .stuck
@[simp] def mNotInV (tz : TabW) (a : ME) : ME := fun s st => (a s st).bind fun x st1 => match x with
  | .str z => match lookT tz z with
    | some o => .ok (.bl (!o.isSome)) st1
    | none => .stuck
  | _ => .stuck
@[simp] def mItemV (tz : TabW) (a : ME) : ME := fun s st => (a s st).bind fun x st1 => match x with
  | .str z => match lookT tz z with
    | some (some w) => .ok w st1
    | _ => .stuck
  | _ => .stuck
theorem KDw.look {K : PySem.W.Frag} {w : World} {d : Addr} {tz : TabW} (T : KDw K w d tz) {z : Str} {o : Option W} (h : lookT tz z = some o) : ∃ r, PySem.W.nsIn K d z = some r ∧ r.isSome = o.isSome := by
  cases o with
  | none => exact ⟨none, T.n z h, rfl⟩
  | some i =>
    obtain ⟨u, e, _⟩ := T.i z i h
    exact ⟨_, e, rfl⟩
section
variable {X : Cx} {Cl : Nat → Addr} {E : XK} {pos p : Pos} {ma : ME} {a : Expr} {d : Addr} {x : Str} {tz : TabW}
theorem se_inV {t : TE} (T : KDw X.K X.w d tz) (q1 : SE X.K Cl E t ma) : SE X.K Cl E (tOp (fun x y H Q => ∃ (z : Str) (r : Option Value), x = .str z ∧ y = .ref d ∧ PySem.W.nsIn X.K d z = some r ∧ Q (.bl r.isSome) H) t (tC (.ref d))) (mInV tz ma) :=
  fun β H σ s st Q hr hs h => q1 β H σ s st _ hr hs (h.bind fun y st1 β1 H1 v _ e1 hr1 ry h1 => by
    split at h1
    · split at h1
      · rename_i z o ho
        cases ry
        obtain ⟨r, e, er⟩ := T.look ho
        exact ⟨_, r, rfl, rfl, e, by rw [er]; exact PoG.val h1 hr1 (.bl _)⟩
      · exact h1.elim
    · exact h1.elim)
theorem se_notInV {t : TE} (T : KDw X.K X.w d tz) (q1 : SE X.K Cl E t ma) : SE X.K Cl E (tOp (fun x y H Q => ∃ (z : Str) (r : Option Value), x = .str z ∧ y = .ref d ∧ PySem.W.nsIn X.K d z = some r ∧ Q (.bl (!r.isSome)) H) t (tC (.ref d))) (mNotInV tz ma) :=
  fun β H σ s st Q hr hs h => q1 β H σ s st _ hr hs (h.bind fun y st1 β1 H1 v _ e1 hr1 ry h1 => by
    split at h1
    · split at h1
      · rename_i z o ho
        cases ry
        obtain ⟨r, e, er⟩ := T.look ho
        exact ⟨_, r, rfl, rfl, e, by rw [er]; exact PoG.val h1 hr1 (.bl _)⟩
      · exact h1.elim
    · exact h1.elim)
theorem je_inV (T : KDw X.K X.w d tz) (hm : X.mg x = some (.ref d)) (ha : JE X Cl E a ma) (hg : Gl X x := by rfl) (hd : (x == ("__debug__" : Str)) = false := by decide) (hb : behindInMarks .In (.Name x p) = false := by rfl) : JE X Cl E (.Compare a [.In] [.Name x p] pos) (mInV tz ma) := by
  obtain ⟨t, p1, q1⟩ := ha.ex
  obtain ⟨es, n, D⟩ := T.D
  exact ⟨_, pe_cmpR (op_in_kd D) p1 (pe_glob (v := .ref d) hg hm rfl hd) hb, se_inV T q1⟩
theorem je_notInV (T : KDw X.K X.w d tz) (hm : X.mg x = some (.ref d)) (ha : JE X Cl E a ma) (hg : Gl X x := by rfl) (hd : (x == ("__debug__" : Str)) = false := by decide) (hb : behindInMarks .NotIn (.Name x p) = false := by rfl) : JE X Cl E (.Compare a [.NotIn] [.Name x p] pos) (mNotInV tz ma) := by
  obtain ⟨t, p1, q1⟩ := ha.ex
  obtain ⟨es, n, D⟩ := T.D
  exact ⟨_, pe_cmpR (op_notIn_kd D) p1 (pe_glob (v := .ref d) hg hm rfl hd) hb, se_notInV T q1⟩
theorem jt_inV (T : KDw X.K X.w d tz) (hm : X.mg x = some (.ref d)) (ha : JE X Cl E a ma) (hg : Gl X x := by rfl) (hd : (x == ("__debug__" : Str)) = false := by decide) (hb : behindInMarks .In (.Name x p) = false := by rfl) : JT X Cl E (.Compare a [.In] [.Name x p] pos) (mTest (mInV tz ma)) := by
  obtain ⟨t, p1, q1⟩ := ha.ex
  obtain ⟨es, n, D⟩ := T.D
  exact ⟨_, pt_cmpR (op_in_kd D) p1 (pe_glob (v := .ref d) hg hm rfl hd) hb, st_test (se_inV T q1)⟩
theorem jt_notInV (T : KDw X.K X.w d tz) (hm : X.mg x = some (.ref d)) (ha : JE X Cl E a ma) (hg : Gl X x := by rfl) (hd : (x == ("__debug__" : Str)) = false := by decide) (hb : behindInMarks .NotIn (.Name x p) = false := by rfl) : JT X Cl E (.Compare a [.NotIn] [.Name x p] pos) (mTest (mNotInV tz ma)) := by
  obtain ⟨t, p1, q1⟩ := ha.ex
  obtain ⟨es, n, D⟩ := T.D
  exact ⟨_, pt_cmpR (op_notIn_kd D) p1 (pe_glob (v := .ref d) hg hm rfl hd) hb, st_test (se_notInV T q1)⟩
theorem je_itemV (T : KDw X.K X.w d tz) (hm : X.mg x = some (.ref d)) (ha : JE X Cl E a ma) (hg : Gl X x := by rfl) (hd : (x == ("__debug__" : Str)) = false := by decide) (hs : PlainIx a := by exact fun _ _ => rfl) : JE X Cl E (.Subscript (.Name x p) a pos) (mItemV tz ma) := by
  obtain ⟨t, p1, q1⟩ := ha.ex
  obtain ⟨es, n, D⟩ := T.D
  refine ⟨_, pe_ix ix_kdict (pe_glob (v := .ref d) hg hm rfl hd) p1 hs, fun β H σ s st Q hr hs h => q1 β H σ s st _ hr hs (h.bind fun y st1 β1 H1 v _ e1 hr1 ry h1 => ?_)⟩
  split at h1
  · split at h1
    · rename_i z he _ i ho
      cases ry
      obtain ⟨u, e, v, ru, rv⟩ := T.i _ _ ho
      exact ⟨d, z, v, rfl, rfl, ⟨es, n, _, D.at_, D.lit, e, ru⟩, PoG.val h1 hr1 (rv _ _)⟩
    · exact h1.elim
  · exact h1.elim
end
end Mi
namespace Mi
open PySem L2
/-! ### list(range(n)) as an object -/
def mListRgS (a : ME) : ME := fun s st => (a s st).bind fun x st1 => match x with
  | .int n => if 0 ≤ n ∧ n ≤ 1000000 then .ok (.ref st1.length) (st1 ++ [.lst (rngW 0 n.toNat)]) else .stuck
  | _ => .stuck
theorem je_listRgS {X : Cx} {Cl : Nat → Addr} {E : XK} {pos p p2 pos2 : Pos} {e : Expr} {m : ME} (hm : X.mg "list" = none) (hmr : X.mg "range" = none) (ha : JE X Cl E e m) (hc : X.calm = true := by rfl) (hg : Gl X "list" := by rfl) (hgr : Gl X "range" := by rfl)
    (n1 : starEach [e] X.env = (false, eval e X.env) :: starEach [] X.env := by rfl) (n2 : starEach [.Call (.Name "range" p2) [e] [] pos2] X.env = (false, eval (.Call (.Name "range" p2) [e] [] pos2) X.env) :: starEach [] X.env := by rfl) :
    JE X Cl E (.Call (.Name "list" p) [.Call (.Name "range" p2) [e] [] pos2] [] pos) (mListRgS m) := by
  obtain ⟨_, p1, q1⟩ := ha.ex
  refine ⟨_, pe_listRg hc hg hm (prg_1 hgr hmr p1 n1) n2, fun β H σ s st Q hr hs h => q1 β H σ s st _ hr hs ?_⟩
  refine h.bind fun x st1 β1 H1 v eo e1 hr1 rx h1 => ?_
  clear eo
  split at h1
  · rename_i n
    cases rx
    split at h1
    · rename_i hn
      refine ⟨n, rfl, ⟨by omega, by omega, by omega, by omega⟩, fun l hl => ?_⟩
      have rv : RVs X.K β1 H1 (rngW 0 n.toNat) (rgV 0 n) := by
        unfold rngW rgV
        rw [Int.sub_zero]
        generalize List.range n.toNat = ks
        induction ks with
        | nil => exact .nil
        | cons k ks ih => exact .cons (.int _) ih
      exact Po.lstS h1 hr1 hl rv
    · exact h1.elim
  · exact h1.elim
end Mi

namespace Gn
open PySem L2 Mi
/-! ### the text by places -/
def top (i : Nat) : Stmt := PySem.Challenge.pw_onestepcourt_k34_checked_trees.main.body.getD i (.Pass ⟨0, 0, 0, 0⟩)
abbrev s_L_bag : Stmt := top 28
abbrev s_L_draw : Stmt := top 29
abbrev s_L_one : Stmt := top 30
abbrev s_L_c_e : Stmt := top 32
abbrev s_L_c_args : Stmt := top 31
abbrev s_L_c_body : Stmt := top 33
abbrev s_L_c_s : Stmt := top 34
abbrev s_L_c_function : Stmt := top 35
abbrev s_L_checked : Stmt := top 36
abbrev s_is_row : Stmt := top 11
abbrev s_is_list : Stmt := top 12
abbrev s_is_integer : Stmt := top 7
abbrev s_is_number : Stmt := top 17
abbrev s_starts_with_string : Stmt := top 13
abbrev s_is_word : Stmt := top 8
abbrev s_is_leaf : Stmt := top 18
abbrev s_is_body : Stmt := top 22
abbrev s_is_statement : Stmt := top 21
abbrev s_is_part : Stmt := top 19
abbrev s_is_expression : Stmt := top 20
abbrev s_is_function : Stmt := top 23
abbrev s_is_shaped : Stmt := top 24
abbrev s_Rules_value : Stmt := inClass (top 25) 6
abbrev s_Rules_called : Stmt := inClass (top 25) 5
abbrev s_Rules_slot : Stmt := inClass (top 25) 4
abbrev s_Rules_body : Stmt := inClass (top 25) 2
abbrev s_Rules_statement : Stmt := inClass (top 25) 3
abbrev s_Rules_hold : Stmt := inClass (top 25) 1
abbrev s_Rules_init : Stmt := inClass (top 25) 0
abbrev s_is_checked : Stmt := top 26
abbrev s_L_large : Stmt := top 49
abbrev s_L_spoilt : Stmt := top 47
abbrev s_L_odd : Stmt := top 48
abbrev s_L_is_int : Stmt := top 37
abbrev s_L_shape : Stmt := top 38
abbrev s_L_is_part : Stmt := top 40
abbrev s_L_is_node : Stmt := top 39
abbrev s_L_called : Stmt := top 42
abbrev s_L_e_holds : Stmt := top 41
abbrev s_L_b_holds : Stmt := top 44
abbrev s_L_s_holds : Stmt := top 43
abbrev s_L_f_holds : Stmt := top 45
abbrev s_L_is_checked : Stmt := top 46
abbrev s_law : Stmt := top 50
/-! ### constants, mirrors -/
def w_MOST_WORD : W := (W.int 65535)
def w_SIGNS : W := (W.tup [(W.str "+"), (W.str "-"), (W.str "*"), (W.str "/"), (W.str "mod"), (W.str "=="), (W.str "!="), (W.str "<"), (W.str "<="), (W.str ">"), (W.str ">=")])
def w_MOST_NESTED : W := (W.int 12)
def w_MOST_PARAMS : W := (W.int 4)
def w_MOST_TABLES : W := (W.int 8)
def w_MOST_FUNCTIONS : W := (W.int 8)
def w_MOST_SIZE : W := (W.int 64)
def zt_STATEMENTS : TabW := [(("let" : Str), some (W.tup [(W.str "slot"), (W.str "expression")])), (("set" : Str), some (W.tup [(W.str "slot"), (W.str "expression")])), (("put" : Str), some (W.tup [(W.str "table"), (W.str "expression"), (W.str "expression")])), (("if" : Str), some (W.tup [(W.str "expression"), (W.str "body"), (W.str "body")])), (("while" : Str), some (W.tup [(W.str "expression"), (W.str "body")])), (("tell" : Str), some (W.tup [(W.str "expression")])), (("give" : Str), some (W.tup [(W.str "expression")])), (("do" : Str), some (W.tup [(W.str "function"), (W.str "args")])), (("checked" : Str), none), (("number" : Str), none), (("slot" : Str), none), (("at" : Str), none), (("call" : Str), none), (("input" : Str), none), (("inputs" : Str), none), (("not" : Str), none), (("op" : Str), none), (("and" : Str), none), (("or" : Str), none), (("=" : Str), none), (("" : Str), none), (("x" : Str), none), (("+" : Str), none), (("-" : Str), none), (("*" : Str), none), (("/" : Str), none), (("mod" : Str), none), (("==" : Str), none), (("!=" : Str), none), (("<" : Str), none), (("<=" : Str), none), ((">" : Str), none), ((">=" : Str), none)]
def zt_EXPRESSIONS : TabW := [(("number" : Str), some (W.tup [(W.str "word")])), (("slot" : Str), some (W.tup [(W.str "slot")])), (("at" : Str), some (W.tup [(W.str "table"), (W.str "expression")])), (("call" : Str), some (W.tup [(W.str "function"), (W.str "args")])), (("input" : Str), some (W.tup [(W.str "expression")])), (("inputs" : Str), some (W.tup [])), (("not" : Str), some (W.tup [(W.str "expression")])), (("op" : Str), some (W.tup [(W.str "sign"), (W.str "expression"), (W.str "expression")])), (("and" : Str), some (W.tup [(W.str "expression"), (W.str "expression")])), (("or" : Str), some (W.tup [(W.str "expression"), (W.str "expression")])), (("checked" : Str), none), (("let" : Str), none), (("set" : Str), none), (("put" : Str), none), (("if" : Str), none), (("while" : Str), none), (("tell" : Str), none), (("give" : Str), none), (("do" : Str), none), (("=" : Str), none), (("" : Str), none), (("x" : Str), none), (("+" : Str), none), (("-" : Str), none), (("*" : Str), none), (("/" : Str), none), (("mod" : Str), none), (("==" : Str), none), (("!=" : Str), none), (("<" : Str), none), (("<=" : Str), none), ((">" : Str), none), ((">=" : Str), none)]
def b_L_bag : MS :=
  (mSeq (mAsg (mC (W.int 0)) (mGN 2))
  (mSeq (mIfS (mTest (mOp mLt (mVar 1) (mCB mLen (mCons (mVar 0) mNil)))) (mAsg (mCB mInt (mCons (mOp mIx (mVar 0) (mVar 1)) mNil)) (mGN 2)) mSkip)
  (mSeq (mIfS (mTest (mOp mGe (mVar 2) (mOp mPow (mC (W.int 10)) (mC (W.int 18))))) (mRet (mLstS (mCons (mVar 2) (mCons (mVar 2) (mCons (mVar 1) mNil))))) mSkip)
  (mRet (mLstS (mCons (mC (W.int 0)) (mCons (mVar 2) (mCons (mVar 1) mNil))))))))
def m_L_bag : MF := mDef 2 1 b_L_bag
def b_L_draw : MS :=
  (mSeq (mIfS (mTest (mOp mEq (mOp mIx (mVar 0) (mC (W.int 0))) (mC (W.int 0)))) (mSeq (mAsg (mOp mMod (mCB mInt (mCons (mOp mAdd (mOp mAdd (mOp mMul (mOp mIx (mVar 0) (mC (W.int 1))) (mC (W.int 48271))) (mOp mMul (mOp mIx (mVar 0) (mC (W.int 2))) (mC (W.int 69621)))) (mC (W.int 11))) mNil)) (mC (W.int 2147483647))) (mGN 2))
  (mSeq (mAsg (mOp mAdd (mOp mMul (mVar 2) (mC (W.int 2147483629))) (mOp mMod (mCB mInt (mCons (mOp mAdd (mOp mMul (mVar 2) (mVar 2)) (mOp mMul (mOp mIx (mVar 0) (mC (W.int 2))) (mC (W.int 16807)))) mNil)) (mC (W.int 2147483629)))) (mGSub (mVar 0) (mC (W.int 0))))
  (mAsg (mVar 2) (mGSub (mVar 0) (mC (W.int 1)))))) mSkip)
  (mSeq (mAsg (mOp mIx (mVar 0) (mC (W.int 0))) (mGN 3))
  (mSeq (mAsg (mOp mFdiv (mVar 3) (mVar 1)) (mGSub (mVar 0) (mC (W.int 0))))
  (mRet (mOp mMod (mCB mInt (mCons (mVar 3) mNil)) (mVar 1))))))
def m_L_draw : MF := mDef 2 2 b_L_draw
def b_L_one : MS :=
  (mRet (mOp mIx (mVar 1) (mCall 2 m_L_draw (mCons (mVar 0) (mCons (mCB mLen (mCons (mVar 1) mNil)) mNil)))))
def m_L_one : MF := mDef 2 0 b_L_one
def e0_L_c_e (r0 r1 : MF) : ME :=
  (mTup (mCons (mC (W.str "slot")) (mCons (mVar 5) mNil)))
def b_L_c_e (r0 r1 : MF) : MS :=
  (mSeq (mDPut (mVar 1) (mC (W.str "fuel")) (mOp mSub (mDGet (mVar 1) (mC (W.str "fuel"))) (mC (W.int 1))))
  (mSeq (mAsg (mCall 2 m_L_draw (mCons (mVar 0) (mCons (mC (W.int 14)) mNil))) (mGN 3))
  (mSeq (mIfS (mTOr (mTest (mOp mLt (mVar 2) (mC (W.int 2)))) (mTOr (mTest (mOp mLt (mDGet (mVar 1) (mC (W.str "fuel"))) (mC (W.int 1)))) (mTest (mOp mLt (mVar 3) (mC (W.int 4)))))) (mSeq (mAsg (mLst (mCons (mTup (mCons (mC (W.str "number")) (mCons (mCall 2 m_L_one (mCons (mVar 0) (mCons (mLst (mCons (mC (W.int 0)) (mCons (mC (W.int 1)) (mCons (mC (W.int 2)) (mCons (mC (W.int 3)) (mCons (mC (W.int 65535)) (mCons (mCall 2 m_L_draw (mCons (mVar 0) (mCons (mC (W.int 65536)) mNil))) mNil))))))) mNil))) mNil))) (mCons (mTup (mCons (mC (W.str "inputs")) mNil)) mNil))) (mGN 4))
  (mSeq (mAsg (mOp mAdd (mVar 4) (mLc (mILst (mDGet (mVar 1) (mC (W.str "open")))) (.nm 5) mYes (e0_L_c_e r0 r1) [5])) (mGN 4))
  (mRet (mOp mIx (mVar 4) (mOp mIx (mLst (mCons (mCall 2 m_L_draw (mCons (mVar 0) (mCons (mCB mLen (mCons (mVar 4) mNil)) mNil))) (mCons (mOp mSub (mCB mLen (mCons (mVar 4) mNil)) (mC (W.int 1))) mNil))) (mCall 2 m_L_draw (mCons (mVar 0) (mCons (mC (W.int 2)) mNil)))))))) mSkip)
  (mSeq (mIfS (mTest (mOp mEq (mVar 3) (mC (W.int 4)))) (mRet (mTup (mCons (mC (W.str "not")) (mCons (mCall 3 r0 (mCons (mVar 0) (mCons (mVar 1) (mCons (mOp mSub (mVar 2) (mC (W.int 1))) mNil)))) mNil)))) mSkip)
  (mSeq (mIfS (mTAnd (mTest (mOp mEq (mVar 3) (mC (W.int 5)))) (mTest (mOp mGt (mCB mLen (mCons (mDGet (mVar 1) (mC (W.str "sizes"))) mNil)) (mC (W.int 0))))) (mRet (mTup (mCons (mC (W.str "at")) (mCons (mCall 2 m_L_draw (mCons (mVar 0) (mCons (mCB mLen (mCons (mDGet (mVar 1) (mC (W.str "sizes"))) mNil)) mNil))) (mCons (mCall 3 r0 (mCons (mVar 0) (mCons (mVar 1) (mCons (mOp mSub (mVar 2) (mC (W.int 1))) mNil)))) mNil))))) mSkip)
  (mSeq (mIfS (mTest (mOp mEq (mVar 3) (mC (W.int 6)))) (mRet (mTup (mCons (mC (W.str "input")) (mCons (mCall 3 r0 (mCons (mVar 0) (mCons (mVar 1) (mCons (mOp mSub (mVar 2) (mC (W.int 1))) mNil)))) mNil)))) mSkip)
  (mSeq (mIfS (mTAnd (mTest (mOp mEq (mVar 3) (mC (W.int 7)))) (mTest (mOp mGt (mCB mLen (mCons (mDGet (mVar 1) (mC (W.str "params"))) mNil)) (mC (W.int 0))))) (mSeq (mAsg (mCall 2 m_L_draw (mCons (mVar 0) (mCons (mCB mLen (mCons (mDGet (mVar 1) (mC (W.str "params"))) mNil)) mNil))) (mGN 6))
  (mRet (mTup (mCons (mC (W.str "call")) (mCons (mVar 6) (mCons (mCall 4 r1 (mCons (mVar 0) (mCons (mVar 1) (mCons (mVar 6) (mCons (mOp mSub (mVar 2) (mC (W.int 1))) mNil))))) mNil)))))) mSkip)
  (mSeq (mAsg (mCall 3 r0 (mCons (mVar 0) (mCons (mVar 1) (mCons (mOp mSub (mVar 2) (mC (W.int 1))) mNil)))) (mGN 7))
  (mSeq (mAsg (mCall 3 r0 (mCons (mVar 0) (mCons (mVar 1) (mCons (mOp mSub (mVar 2) (mC (W.int 1))) mNil)))) (mGN 8))
  (mSeq (mIfS (mTest (mOp mEq (mVar 3) (mC (W.int 8)))) (mRet (mTup (mCons (mCall 2 m_L_one (mCons (mVar 0) (mCons (mLst (mCons (mC (W.str "and")) (mCons (mC (W.str "or")) mNil))) mNil))) (mCons (mVar 7) (mCons (mVar 8) mNil))))) mSkip)
  (mRet (mTup (mCons (mC (W.str "op")) (mCons (mCall 2 m_L_one (mCons (mVar 0) (mCons (mLst (mCons (mC (W.str "+")) (mCons (mC (W.str "-")) (mCons (mC (W.str "*")) (mCons (mC (W.str "/")) (mCons (mC (W.str "mod")) (mCons (mC (W.str "==")) (mCons (mC (W.str "!=")) (mCons (mC (W.str "<")) (mCons (mC (W.str "<=")) (mCons (mC (W.str ">")) (mCons (mC (W.str ">=")) (mCons (mC (W.str "+")) (mCons (mC (W.str "+")) (mCons (mC (W.str "-")) (mCons (mC (W.str "<")) mNil)))))))))))))))) mNil))) (mCons (mVar 7) (mCons (mVar 8) mNil))))))))))))))))
def e0_L_c_args (r0 r1 : MF) : ME :=
  (mCall 3 r0 (mCons (mVar 0) (mCons (mVar 1) (mCons (mVar 3) mNil))))
def b_L_c_args (r0 r1 : MF) : MS :=
  (mRet (mCB mTupleOf (mCons (mLc (mIRng1 (mCons (mOp mIx (mDGet (mVar 1) (mC (W.str "params"))) (mVar 2)) mNil)) (.nm 4) mYes (e0_L_c_args r0 r1) [4]) mNil)))
def R_L_c_e : Nat → Nat → MF
  | 0, 0 => mDef 3 6 mDead
  | 0, _ => mDef 4 1 mDead
  | d + 1, 0 => mDef 3 6 (b_L_c_e (R_L_c_e d 0) (R_L_c_e d 1))
  | d + 1, _ => mDef 4 1 (b_L_c_args (R_L_c_e d 0) (R_L_c_e d 1))
abbrev m_L_c_e (d : Nat) : MF := R_L_c_e d 0
theorem nox_L_c_e : ∀ d, NoX (m_L_c_e d)
  | 0 => nox_def
  | _ + 1 => nox_def
abbrev m_L_c_args (d : Nat) : MF := R_L_c_e d 1
theorem nox_L_c_args : ∀ d, NoX (m_L_c_args d)
  | 0 => nox_def
  | _ + 1 => nox_def
def l0_L_c_body (r0 r1 : MF) : MS :=
  (mIfS (mTest (mOp mGt (mDGet (mVar 1) (mC (W.str "fuel"))) (mC (W.int 0)))) (mDrop (mLM mApp (mVar 5) (mCons (mCall 3 r1 (mCons (mVar 0) (mCons (mVar 1) (mCons (mVar 2) mNil)))) mNil))) mSkip)
def b_L_c_body (r0 r1 : MF) : MS :=
  (mSeq (mAsg (mCB mLen (mCons (mDGet (mVar 1) (mC (W.str "open"))) mNil)) (mGN 4))
  (mSeq (mAsg (mLstS mNil) (mGN 5))
  (mSeq (mFor (mIRng1 (mCons (mCall 2 m_L_draw (mCons (mVar 0) (mCons (mOp mAdd (mVar 3) (mC (W.int 1))) mNil))) mNil)) (mGN 6) (l0_L_c_body r0 r1))
  (mSeq (mDPut (mVar 1) (mC (W.str "open")) (mSl (mDGet (mVar 1) (mC (W.str "open"))) mNoPart (mPart (mVar 4))))
  (mRet (mCB mTupleOf (mCons (mVar 5) mNil)))))))
def b_L_c_s (r0 r1 : MF) : MS :=
  (mSeq (mDPut (mVar 1) (mC (W.str "fuel")) (mOp mSub (mDGet (mVar 1) (mC (W.str "fuel"))) (mC (W.int 1))))
  (mSeq (mAsg (mCall 2 m_L_draw (mCons (mVar 0) (mCons (mC (W.int 12)) mNil))) (mGN 3))
  (mSeq (mIfS (mTAnd (mTest (mOp mLt (mVar 3) (mC (W.int 3)))) (mTest (mOp mGt (mVar 2) (mC (W.int 3))))) (mSeq (mAsg (mCall 3 (m_L_c_e 8) (mCons (mVar 0) (mCons (mVar 1) (mCons (mC (W.int 3)) mNil)))) (mGN 4))
  (mSeq (mAsg (mCall 4 r0 (mCons (mVar 0) (mCons (mVar 1) (mCons (mOp mSub (mVar 2) (mC (W.int 1))) (mCons (mC (W.int 3)) mNil))))) (mGN 5))
  (mSeq (mIfS (mTest (mOp mEq (mVar 3) (mC (W.int 0)))) (mRet (mTup (mCons (mC (W.str "while")) (mCons (mVar 4) (mCons (mVar 5) mNil))))) mSkip)
  (mSeq (mAsg (mTup mNil) (mGN 6))
  (mSeq (mIfS (mTest (mOp mEq (mVar 3) (mC (W.int 2)))) (mAsg (mCall 4 r0 (mCons (mVar 0) (mCons (mVar 1) (mCons (mOp mSub (mVar 2) (mC (W.int 1))) (mCons (mC (W.int 2)) mNil))))) (mGN 6)) mSkip)
  (mRet (mTup (mCons (mC (W.str "if")) (mCons (mVar 4) (mCons (mVar 5) (mCons (mVar 6) mNil))))))))))) mSkip)
  (mSeq (mIfS (mTAnd (mTest (mOp mEq (mVar 3) (mC (W.int 3)))) (mTest (mOp mGt (mCB mLen (mCons (mDGet (mVar 1) (mC (W.str "sizes"))) mNil)) (mC (W.int 0))))) (mRet (mTup (mCons (mC (W.str "put")) (mCons (mCall 2 m_L_draw (mCons (mVar 0) (mCons (mCB mLen (mCons (mDGet (mVar 1) (mC (W.str "sizes"))) mNil)) mNil))) (mCons (mCall 3 (m_L_c_e 8) (mCons (mVar 0) (mCons (mVar 1) (mCons (mC (W.int 3)) mNil)))) (mCons (mCall 3 (m_L_c_e 8) (mCons (mVar 0) (mCons (mVar 1) (mCons (mC (W.int 3)) mNil)))) mNil)))))) mSkip)
  (mSeq (mIfS (mTAnd (mTest (mOp mEq (mVar 3) (mC (W.int 4)))) (mTest (mOp mGt (mCB mLen (mCons (mDGet (mVar 1) (mC (W.str "params"))) mNil)) (mC (W.int 0))))) (mSeq (mAsg (mCall 2 m_L_draw (mCons (mVar 0) (mCons (mCB mLen (mCons (mDGet (mVar 1) (mC (W.str "params"))) mNil)) mNil))) (mGN 7))
  (mRet (mTup (mCons (mC (W.str "do")) (mCons (mVar 7) (mCons (mCall 4 (m_L_c_args 8) (mCons (mVar 0) (mCons (mVar 1) (mCons (mVar 7) (mCons (mC (W.int 3)) mNil))))) mNil)))))) mSkip)
  (mSeq (mIfS (mTAnd (mTest (mOp mEq (mVar 3) (mC (W.int 5)))) (mTru (mDGet (mVar 1) (mC (W.str "give"))))) (mRet (mTup (mCons (mC (W.str "give")) (mCons (mCall 3 (m_L_c_e 8) (mCons (mVar 0) (mCons (mVar 1) (mCons (mC (W.int 3)) mNil)))) mNil)))) mSkip)
  (mSeq (mIfS (mTAnd (mTest (mOp mLt (mVar 3) (mC (W.int 8)))) (mTest (mOp mGt (mCB mLen (mCons (mDGet (mVar 1) (mC (W.str "open"))) mNil)) (mC (W.int 0))))) (mRet (mTup (mCons (mC (W.str "set")) (mCons (mCall 2 m_L_one (mCons (mVar 0) (mCons (mDGet (mVar 1) (mC (W.str "open"))) mNil))) (mCons (mCall 3 (m_L_c_e 8) (mCons (mVar 0) (mCons (mVar 1) (mCons (mC (W.int 3)) mNil)))) mNil))))) mSkip)
  (mSeq (mIfS (mTest (mOp mLt (mVar 3) (mC (W.int 10)))) (mSeq (mAsg (mCall 3 (m_L_c_e 8) (mCons (mVar 0) (mCons (mVar 1) (mCons (mC (W.int 3)) mNil)))) (mGN 8))
  (mSeq (mDPut (mVar 1) (mC (W.str "open")) (mOp mAdd (mDGet (mVar 1) (mC (W.str "open"))) (mLst (mCons (mDGet (mVar 1) (mC (W.str "next"))) mNil))))
  (mSeq (mDPut (mVar 1) (mC (W.str "next")) (mOp mAdd (mDGet (mVar 1) (mC (W.str "next"))) (mC (W.int 1))))
  (mRet (mTup (mCons (mC (W.str "let")) (mCons (mOp mSub (mDGet (mVar 1) (mC (W.str "next"))) (mC (W.int 1))) (mCons (mVar 8) mNil)))))))) mSkip)
  (mRet (mTup (mCons (mC (W.str "tell")) (mCons (mCall 3 (m_L_c_e 8) (mCons (mVar 0) (mCons (mVar 1) (mCons (mC (W.int 3)) mNil)))) mNil))))))))))))
def R_L_c_body : Nat → Nat → MF
  | 0, 0 => mDef 4 3 mDead
  | 0, _ => mDef 3 6 mDead
  | d + 1, 0 => mDef 4 3 (b_L_c_body (R_L_c_body d 0) (R_L_c_body d 1))
  | d + 1, _ => mDef 3 6 (b_L_c_s (R_L_c_body d 0) (R_L_c_body d 1))
abbrev m_L_c_body (d : Nat) : MF := R_L_c_body d 0
theorem nox_L_c_body : ∀ d, NoX (m_L_c_body d)
  | 0 => nox_def
  | _ + 1 => nox_def
abbrev m_L_c_s (d : Nat) : MF := R_L_c_body d 1
theorem nox_L_c_s : ∀ d, NoX (m_L_c_s d)
  | 0 => nox_def
  | _ + 1 => nox_def
def b_L_c_function : MS :=
  (mSeq (mAsg (mDisp [((mC (W.str "sizes")), (mVar 1)), ((mC (W.str "params")), (mVar 2)), ((mC (W.str "open")), (mListRg (mVar 3))), ((mC (W.str "next")), (mVar 3)), ((mC (W.str "give")), (mVar 4)), ((mC (W.str "fuel")), (mVar 5))]) (mGN 6))
  (mSeq (mAsg (mCall 4 (m_L_c_body 14) (mCons (mVar 0) (mCons (mVar 6) (mCons (mC (W.int 6)) (mCons (mC (W.int 7)) mNil))))) (mGN 7))
  (mRet (mTup (mCons (mVar 3) (mCons (mDGet (mVar 6) (mC (W.str "next"))) (mCons (mVar 7) mNil)))))))
def m_L_c_function : MF := mDef 6 2 b_L_c_function
def e0_L_checked : ME :=
  (mCall 2 m_L_one (mCons (mVar 0) (mCons (mLst (mCons (mC (W.int 1)) (mCons (mC (W.int 2)) (mCons (mC (W.int 3)) (mCons (mC (W.int 64)) (mCons (mOp mAdd (mC (W.int 1)) (mCall 2 m_L_draw (mCons (mVar 0) (mCons (mC (W.int 9)) mNil)))) mNil)))))) mNil)))
def l1_L_checked : MS :=
  (mSeq (mAsg (mCall 2 m_L_one (mCons (mVar 0) (mCons (mLst (mCons (mC (W.int 0)) (mCons (mC (W.int 1)) (mCons (mC (W.int 2)) (mCons (mC (W.int 4)) mNil))))) mNil))) (mGN 6))
  (mSeq (mDrop (mLM mApp (mVar 5) (mCons (mCall 6 m_L_c_function (mCons (mVar 0) (mCons (mVar 2) (mCons (mCB mListOf (mCons (mVar 4) mNil)) (mCons (mVar 6) (mCons (mC (W.bl true)) (mCons (mOp mFdiv (mVar 1) (mC (W.int 2))) mNil))))))) mNil)))
  (mDrop (mLM mApp (mVar 4) (mCons (mVar 6) mNil)))))
def b_L_checked : MS :=
  (mSeq (mAsg (mCB mTupleOf (mCons (mLc (mIRng1 (mCons (mCall 2 m_L_draw (mCons (mVar 0) (mCons (mC (W.int 3)) mNil))) mNil)) (.nm 3) mYes e0_L_checked [3]) mNil)) (mGN 2))
  (mSeq (mAsg (mLstS mNil) (mGN 4))
  (mSeq (mAsg (mLstS mNil) (mGN 5))
  (mSeq (mFor (mIRng1 (mCons (mCall 2 m_L_one (mCons (mVar 0) (mCons (mLst (mCons (mC (W.int 0)) (mCons (mC (W.int 1)) (mCons (mC (W.int 2)) (mCons (mC (W.int 3)) mNil))))) mNil))) mNil)) (mGN 3) l1_L_checked)
  (mRet (mTup (mCons (mC (W.str "checked")) (mCons (mVar 2) (mCons (mCB mTupleOf (mCons (mVar 5) mNil)) (mCons (mCall 6 m_L_c_function (mCons (mVar 0) (mCons (mVar 2) (mCons (mVar 4) (mCons (mC (W.int 0)) (mCons (mC (W.bl false)) (mCons (mVar 1) mNil))))))) mNil))))))))))
def m_L_checked : MF := mDef 2 5 b_L_checked
def b_is_row : MS :=
  (mRet (mAndV (mIsi "tuple" (mVar 0)) (mOp mEq (mCB mLen (mCons (mVar 0) mNil)) (mVar 1))))
def m_is_row : MF := mDef 2 0 b_is_row
def b_is_list : MS :=
  (mRet (mAndV (mIsi "tuple" (mVar 0)) (mOp mLe (mCB mLen (mCons (mVar 0) mNil)) (mVar 1))))
def m_is_list : MF := mDef 2 0 b_is_list
def b_is_integer : MS :=
  (mRet (mAndV (mIsi "int" (mVar 0)) (mAndV (mNotV (mIsi "bool" (mVar 0))) (mChain mLe mLe (mVar 1) (mVar 0) (mVar 2)))))
def m_is_integer : MF := mDef 3 0 b_is_integer
def b_is_number : MS :=
  (mRet (mAndV (mIsi "int" (mVar 0)) (mAndV (mNotV (mIsi "bool" (mVar 0))) (mOp mGe (mVar 0) (mC (W.int 0))))))
def m_is_number : MF := mDef 1 0 b_is_number
def b_starts_with_string : MS :=
  (mRet (mAndV (mIsi "tuple" (mVar 0)) (mAndV (mOp mNe (mVar 0) (mTup mNil)) (mIsi "str" (mOp mIx (mVar 0) (mC (W.int 0)))))))
def m_starts_with_string : MF := mDef 1 0 b_starts_with_string
def b_is_word : MS :=
  (mRet (mCall 3 m_is_integer (mCons (mVar 0) (mCons (mC (W.int 0)) (mCons (mC w_MOST_WORD) mNil)))))
def m_is_word : MF := mDef 1 0 b_is_word
def b_is_leaf : MS :=
  (mSeq (mIfS (mTest (mOp mIn (mVar 0) (mTup (mCons (mC (W.str "slot")) (mCons (mC (W.str "table")) (mCons (mC (W.str "function")) mNil)))))) (mRet (mCall 1 m_is_number (mCons (mVar 1) mNil))) mSkip)
  (mSeq (mIfS (mTest (mOp mEq (mVar 0) (mC (W.str "word")))) (mRet (mCall 1 m_is_word (mCons (mVar 1) mNil))) mSkip)
  (mRet (mAndV (mIsi "str" (mVar 1)) (mOp mIn (mVar 1) (mC w_SIGNS))))))
def m_is_leaf : MF := mDef 2 0 b_is_leaf
def e0_is_body (r0 r1 r2 r3 : MF) : ME :=
  (mCall 2 r1 (mCons (mVar 2) (mCons (mVar 1) mNil)))
def b_is_body (r0 r1 r2 r3 : MF) : MS :=
  (mRet (mAndV (mIsi "tuple" (mVar 0)) (mCB mAll (mCons (mLc (mITup (mVar 0)) (.nm 2) mYes (e0_is_body r0 r1 r2 r3) [2]) mNil))))
def e0_is_statement (r0 r1 r2 r3 : MF) : ME :=
  (mCall 3 r2 (mCons (mVar 3) (mCons (mVar 4) (mCons (mOp mAdd (mVar 1) (mC (W.int 1))) mNil))))
def b_is_statement (r0 r1 r2 r3 : MF) : MS :=
  (mSeq (mIfS (mTOr (mTest (mOp mGt (mVar 1) (mC w_MOST_NESTED))) (mTOr (mTNot (mTru (mCall 1 m_starts_with_string (mCons (mVar 0) mNil)))) (mTest (mNotInV zt_STATEMENTS (mOp mIx (mVar 0) (mC (W.int 0))))))) (mRet (mC (W.bl false))) mSkip)
  (mSeq (mAsg (mItemV zt_STATEMENTS (mOp mIx (mVar 0) (mC (W.int 0)))) (mGN 2))
  (mRet (mAndV (mOp mEq (mCB mLen (mCons (mVar 0) mNil)) (mOp mAdd (mCB mLen (mCons (mVar 2) mNil)) (mC (W.int 1)))) (mCB mAll (mCons (mLc (mIZip (mCons (mVar 2) (mCons (mSl (mVar 0) (mPart (mC (W.int 1))) mNoPart) mNil))) (.tp [(.nm 3), (.nm 4)]) mYes (e0_is_statement r0 r1 r2 r3) [3, 4]) mNil))))))
def e0_is_part (r0 r1 r2 r3 : MF) : ME :=
  (mCall 2 r3 (mCons (mVar 3) (mCons (mVar 2) mNil)))
def b_is_part (r0 r1 r2 r3 : MF) : MS :=
  (mSeq (mIfS (mTest (mOp mEq (mVar 0) (mC (W.str "expression")))) (mRet (mCall 2 r3 (mCons (mVar 1) (mCons (mVar 2) mNil)))) mSkip)
  (mSeq (mIfS (mTest (mOp mEq (mVar 0) (mC (W.str "body")))) (mRet (mCall 2 r0 (mCons (mVar 1) (mCons (mVar 2) mNil)))) mSkip)
  (mSeq (mIfS (mTest (mOp mEq (mVar 0) (mC (W.str "args")))) (mRet (mAndV (mCall 2 m_is_list (mCons (mVar 1) (mCons (mC w_MOST_PARAMS) mNil))) (mCB mAll (mCons (mLc (mITup (mVar 1)) (.nm 3) mYes (e0_is_part r0 r1 r2 r3) [3]) mNil)))) mSkip)
  (mRet (mCall 2 m_is_leaf (mCons (mVar 0) (mCons (mVar 1) mNil)))))))
def e0_is_expression (r0 r1 r2 r3 : MF) : ME :=
  (mCall 3 r2 (mCons (mVar 3) (mCons (mVar 4) (mCons (mOp mAdd (mVar 1) (mC (W.int 1))) mNil))))
def b_is_expression (r0 r1 r2 r3 : MF) : MS :=
  (mSeq (mIfS (mTOr (mTest (mOp mGt (mVar 1) (mC w_MOST_NESTED))) (mTOr (mTNot (mTru (mCall 1 m_starts_with_string (mCons (mVar 0) mNil)))) (mTest (mNotInV zt_EXPRESSIONS (mOp mIx (mVar 0) (mC (W.int 0))))))) (mRet (mC (W.bl false))) mSkip)
  (mSeq (mAsg (mItemV zt_EXPRESSIONS (mOp mIx (mVar 0) (mC (W.int 0)))) (mGN 2))
  (mRet (mAndV (mOp mEq (mCB mLen (mCons (mVar 0) mNil)) (mOp mAdd (mCB mLen (mCons (mVar 2) mNil)) (mC (W.int 1)))) (mCB mAll (mCons (mLc (mIZip (mCons (mVar 2) (mCons (mSl (mVar 0) (mPart (mC (W.int 1))) mNoPart) mNil))) (.tp [(.nm 3), (.nm 4)]) mYes (e0_is_expression r0 r1 r2 r3) [3, 4]) mNil))))))
def R_is_body : Nat → Nat → MF
  | 0, 0 => mDef 2 1 mDead
  | 0, 1 => mDef 2 3 mDead
  | 0, 2 => mDef 3 1 mDead
  | 0, _ => mDef 2 3 mDead
  | d + 1, 0 => mDef 2 1 (b_is_body (R_is_body d 0) (R_is_body d 1) (R_is_body d 2) (R_is_body d 3))
  | d + 1, 1 => mDef 2 3 (b_is_statement (R_is_body d 0) (R_is_body d 1) (R_is_body d 2) (R_is_body d 3))
  | d + 1, 2 => mDef 3 1 (b_is_part (R_is_body d 0) (R_is_body d 1) (R_is_body d 2) (R_is_body d 3))
  | d + 1, _ => mDef 2 3 (b_is_expression (R_is_body d 0) (R_is_body d 1) (R_is_body d 2) (R_is_body d 3))
abbrev m_is_body (d : Nat) : MF := R_is_body d 0
theorem nox_is_body : ∀ d, NoX (m_is_body d)
  | 0 => nox_def
  | _ + 1 => nox_def
abbrev m_is_statement (d : Nat) : MF := R_is_body d 1
theorem nox_is_statement : ∀ d, NoX (m_is_statement d)
  | 0 => nox_def
  | _ + 1 => nox_def
abbrev m_is_part (d : Nat) : MF := R_is_body d 2
theorem nox_is_part : ∀ d, NoX (m_is_part d)
  | 0 => nox_def
  | _ + 1 => nox_def
abbrev m_is_expression (d : Nat) : MF := R_is_body d 3
theorem nox_is_expression : ∀ d, NoX (m_is_expression d)
  | 0 => nox_def
  | _ + 1 => nox_def
def b_is_function : MS :=
  (mSeq (mIfS (mTOr (mTNot (mTru (mCall 2 m_is_row (mCons (mVar 0) (mCons (mC (W.int 3)) mNil))))) (mTOr (mTNot (mTru (mCall 3 m_is_integer (mCons (mOp mIx (mVar 0) (mC (W.int 0))) (mCons (mC (W.int 0)) (mCons (mVar 1) mNil)))))) (mTNot (mTru (mCall 1 m_is_number (mCons (mOp mIx (mVar 0) (mC (W.int 1))) mNil)))))) (mRet (mC (W.bl false))) mSkip)
  (mRet (mCall 2 (m_is_body 40) (mCons (mOp mIx (mVar 0) (mC (W.int 2))) (mCons (mC (W.int 1)) mNil)))))
def m_is_function : MF := mDef 2 0 b_is_function
def e0_is_shaped : ME :=
  (mCall 3 m_is_integer (mCons (mVar 1) (mCons (mC (W.int 1)) (mCons (mC w_MOST_SIZE) mNil))))
def e1_is_shaped : ME :=
  (mCall 2 m_is_function (mCons (mVar 2) (mCons (mC w_MOST_PARAMS) mNil)))
def b_is_shaped : MS :=
  (mSeq (mIfS (mTOr (mTNot (mTru (mCall 2 m_is_row (mCons (mVar 0) (mCons (mC (W.int 4)) mNil))))) (mTest (mOp mNe (mOp mIx (mVar 0) (mC (W.int 0))) (mC (W.str "checked"))))) (mRet (mC (W.bl false))) mSkip)
  (mSeq (mIfS (mTOr (mTNot (mTru (mCall 2 m_is_list (mCons (mOp mIx (mVar 0) (mC (W.int 1))) (mCons (mC w_MOST_TABLES) mNil))))) (mTNot (mTru (mCall 2 m_is_list (mCons (mOp mIx (mVar 0) (mC (W.int 2))) (mCons (mC w_MOST_FUNCTIONS) mNil)))))) (mRet (mC (W.bl false))) mSkip)
  (mSeq (mIfS (mTNot (mTru (mCB mAll (mCons (mLc (mITup (mOp mIx (mVar 0) (mC (W.int 1)))) (.nm 1) mYes e0_is_shaped [1]) mNil)))) (mRet (mC (W.bl false))) mSkip)
  (mRet (mAndV (mCB mAll (mCons (mLc (mITup (mOp mIx (mVar 0) (mC (W.int 2)))) (.nm 2) mYes e1_is_shaped [2]) mNil)) (mCall 2 m_is_function (mCons (mOp mIx (mVar 0) (mC (W.int 3))) (mCons (mC (W.int 0)) mNil))))))))
def m_is_shaped : MF := mDef 1 2 b_is_shaped
def e0_Rules_value (r0 r1 : MF) : ME :=
  (mMeth 9 "_value" 2 r0 (mVar 0) (mCons (mVar 3) mNil))
def b_Rules_value (r0 r1 : MF) : MS :=
  (mSeq (mAsg (mOp mIx (mVar 1) (mC (W.int 0))) (mGN 2))
  (mSeq (mIfS (mTest (mOp mIn (mVar 2) (mTup (mCons (mC (W.str "number")) (mCons (mC (W.str "inputs")) mNil))))) (mRet (mC (W.bl true))) mSkip)
  (mSeq (mIfS (mTest (mOp mEq (mVar 2) (mC (W.str "slot")))) (mRet (mOp mIn (mOp mIx (mVar 1) (mC (W.int 1))) (mFld 9 "_open" (mVar 0)))) mSkip)
  (mSeq (mIfS (mTest (mOp mEq (mVar 2) (mC (W.str "at")))) (mRet (mAndV (mOp mLt (mOp mIx (mVar 1) (mC (W.int 1))) (mCB mLen (mCons (mFld 9 "_sizes" (mVar 0)) mNil))) (mMeth 9 "_value" 2 r0 (mVar 0) (mCons (mOp mIx (mVar 1) (mC (W.int 2))) mNil)))) mSkip)
  (mSeq (mIfS (mTest (mOp mEq (mVar 2) (mC (W.str "call")))) (mRet (mMeth 9 "_called" 3 r1 (mVar 0) (mCons (mOp mIx (mVar 1) (mC (W.int 1))) (mCons (mOp mIx (mVar 1) (mC (W.int 2))) mNil)))) mSkip)
  (mSeq (mIfS (mTest (mOp mEq (mVar 2) (mC (W.str "op")))) (mRet (mAndV (mMeth 9 "_value" 2 r0 (mVar 0) (mCons (mOp mIx (mVar 1) (mC (W.int 2))) mNil)) (mMeth 9 "_value" 2 r0 (mVar 0) (mCons (mOp mIx (mVar 1) (mC (W.int 3))) mNil)))) mSkip)
  (mRet (mCB mAll (mCons (mLc (mITup (mSl (mVar 1) (mPart (mC (W.int 1))) mNoPart)) (.nm 3) mYes (e0_Rules_value r0 r1) [3]) mNil)))))))))
def e0_Rules_called (r0 r1 : MF) : ME :=
  (mMeth 9 "_value" 2 r0 (mVar 0) (mCons (mVar 3) mNil))
def b_Rules_called (r0 r1 : MF) : MS :=
  (mSeq (mIfS (mTOr (mTest (mOp mGe (mVar 1) (mCB mLen (mCons (mFld 9 "_params" (mVar 0)) mNil)))) (mTest (mOp mNe (mCB mLen (mCons (mVar 2) mNil)) (mOp mIx (mFld 9 "_params" (mVar 0)) (mVar 1))))) (mRet (mC (W.bl false))) mSkip)
  (mRet (mCB mAll (mCons (mLc (mITup (mVar 2)) (.nm 3) mYes (e0_Rules_called r0 r1) [3]) mNil))))
def R_Rules_value : Nat → Nat → MF
  | 0, 0 => mDef 2 2 mDead
  | 0, _ => mDef 3 1 mDead
  | d + 1, 0 => mDef 2 2 (b_Rules_value (R_Rules_value d 0) (R_Rules_value d 1))
  | d + 1, _ => mDef 3 1 (b_Rules_called (R_Rules_value d 0) (R_Rules_value d 1))
abbrev m_Rules_value (d : Nat) : MF := R_Rules_value d 0
theorem nox_Rules_value : ∀ d, NoX (m_Rules_value d)
  | 0 => nox_def
  | _ + 1 => nox_def
abbrev m_Rules_called (d : Nat) : MF := R_Rules_value d 1
theorem nox_Rules_called : ∀ d, NoX (m_Rules_called d)
  | 0 => nox_def
  | _ + 1 => nox_def
def b_Rules_slot : MS :=
  (mSeq (mIfS (mTest (mOp mEq (mVar 1) (mC (W.str "set")))) (mRet (mOp mIn (mVar 2) (mFld 9 "_open" (mVar 0)))) mSkip)
  (mSeq (mIfS (mTest (mOp mNe (mVar 2) (mFld 9 "_next" (mVar 0)))) (mRet (mC (W.bl false))) mSkip)
  (mSeq (mAugF 9 "_next" (mVar 0) (mC (W.int 1)) (fun i j => i + j))
  (mSeq (mDrop (mLM mApp (mFld 9 "_open" (mVar 0)) (mCons (mVar 2) mNil)))
  (mRet (mC (W.bl true)))))))
def m_Rules_slot : MF := mDef 3 0 b_Rules_slot
def l0_Rules_body (r0 r1 : MF) : MS :=
  (mIfS (mTNot (mTru (mMeth 9 "_statement" 2 r1 (mVar 0) (mCons (mVar 3) mNil)))) (mRet (mC (W.bl false))) mSkip)
def b_Rules_body (r0 r1 : MF) : MS :=
  (mSeq (mAsg (mCB mLen (mCons (mFld 9 "_open" (mVar 0)) mNil)) (mGN 2))
  (mSeq (mFor (mITup (mVar 1)) (mGN 3) (l0_Rules_body r0 r1))
  (mSeq (mSetF 9 "_open" (mVar 0) (mSlS (mFld 9 "_open" (mVar 0)) mNoPart (mPart (mVar 2))))
  (mRet (mC (W.bl true))))))
def e0_Rules_statement (r0 r1 : MF) : ME :=
  (mMeth 9 "_body" 2 r0 (mVar 0) (mCons (mVar 3) mNil))
def b_Rules_statement (r0 r1 : MF) : MS :=
  (mSeq (mAsg (mOp mIx (mVar 1) (mC (W.int 0))) (mGN 2))
  (mSeq (mIfS (mTest (mOp mIn (mVar 2) (mTup (mCons (mC (W.str "let")) (mCons (mC (W.str "set")) mNil))))) (mRet (mAndV (mMeth 9 "_value" 2 (m_Rules_value 40) (mVar 0) (mCons (mOp mIx (mVar 1) (mC (W.int 2))) mNil)) (mMeth 9 "_slot" 3 m_Rules_slot (mVar 0) (mCons (mVar 2) (mCons (mOp mIx (mVar 1) (mC (W.int 1))) mNil))))) mSkip)
  (mSeq (mIfS (mTest (mOp mIn (mVar 2) (mTup (mCons (mC (W.str "if")) (mCons (mC (W.str "while")) mNil))))) (mRet (mAndV (mMeth 9 "_value" 2 (m_Rules_value 40) (mVar 0) (mCons (mOp mIx (mVar 1) (mC (W.int 1))) mNil)) (mCB mAll (mCons (mLc (mITup (mSl (mVar 1) (mPart (mC (W.int 2))) mNoPart)) (.nm 3) mYes (e0_Rules_statement r0 r1) [3]) mNil)))) mSkip)
  (mSeq (mIfS (mTest (mOp mEq (mVar 2) (mC (W.str "give")))) (mRet (mAndV (mFld 9 "_may_give" (mVar 0)) (mMeth 9 "_value" 2 (m_Rules_value 40) (mVar 0) (mCons (mOp mIx (mVar 1) (mC (W.int 1))) mNil)))) mSkip)
  (mSeq (mIfS (mTest (mOp mEq (mVar 2) (mC (W.str "tell")))) (mRet (mMeth 9 "_value" 2 (m_Rules_value 40) (mVar 0) (mCons (mOp mIx (mVar 1) (mC (W.int 1))) mNil))) mSkip)
  (mSeq (mIfS (mTest (mOp mEq (mVar 2) (mC (W.str "do")))) (mRet (mMeth 9 "_called" 3 (m_Rules_called 40) (mVar 0) (mCons (mOp mIx (mVar 1) (mC (W.int 1))) (mCons (mOp mIx (mVar 1) (mC (W.int 2))) mNil)))) mSkip)
  (mRet (mAndV (mOp mLt (mOp mIx (mVar 1) (mC (W.int 1))) (mCB mLen (mCons (mFld 9 "_sizes" (mVar 0)) mNil))) (mAndV (mMeth 9 "_value" 2 (m_Rules_value 40) (mVar 0) (mCons (mOp mIx (mVar 1) (mC (W.int 2))) mNil)) (mMeth 9 "_value" 2 (m_Rules_value 40) (mVar 0) (mCons (mOp mIx (mVar 1) (mC (W.int 3))) mNil)))))))))))
def R_Rules_body : Nat → Nat → MF
  | 0, 0 => mDef 2 2 mDead
  | 0, _ => mDef 2 2 mDead
  | d + 1, 0 => mDef 2 2 (b_Rules_body (R_Rules_body d 0) (R_Rules_body d 1))
  | d + 1, _ => mDef 2 2 (b_Rules_statement (R_Rules_body d 0) (R_Rules_body d 1))
abbrev m_Rules_body (d : Nat) : MF := R_Rules_body d 0
theorem nox_Rules_body : ∀ d, NoX (m_Rules_body d)
  | 0 => nox_def
  | _ + 1 => nox_def
abbrev m_Rules_statement (d : Nat) : MF := R_Rules_body d 1
theorem nox_Rules_statement : ∀ d, NoX (m_Rules_statement d)
  | 0 => nox_def
  | _ + 1 => nox_def
def b_Rules_hold : MS :=
  (mRet (mAndV (mMeth 9 "_body" 2 (m_Rules_body 40) (mVar 0) (mCons (mOp mIx (mFld 9 "_function" (mVar 0)) (mC (W.int 2))) mNil)) (mOp mEq (mFld 9 "_next" (mVar 0)) (mOp mIx (mFld 9 "_function" (mVar 0)) (mC (W.int 1))))))
def m_Rules_hold : MF := mDef 1 0 b_Rules_hold
def b_Rules_init : MS :=
  (mSeq (mSetF 9 "_sizes" (mVar 0) (mVar 1))
  (mSeq (mSetF 9 "_params" (mVar 0) (mVar 2))
  (mSeq (mSetF 9 "_may_give" (mVar 0) (mVar 4))
  (mSeq (mSetF 9 "_next" (mVar 0) (mOp mIx (mVar 3) (mC (W.int 0))))
  (mSeq (mSetF 9 "_open" (mVar 0) (mListRgS (mOp mIx (mVar 3) (mC (W.int 0)))))
  (mSetF 9 "_function" (mVar 0) (mVar 3)))))))
def m_Rules_init : MF := mDef 5 0 b_Rules_init
def e0_is_checked : ME :=
  (mOp mIx (mVar 6) (mC (W.int 0)))
def l1_is_checked : MS :=
  (mIfS (mTNot (mTru (mMeth 9 "hold" 1 m_Rules_hold (mMake 9 5 m_Rules_init (mCons (mVar 2) (mCons (mSl (mVar 5) mNoPart (mPart (mVar 7))) (mCons (mVar 6) (mCons (mC (W.bl true)) mNil))))) mNil))) (mRet (mC (W.bl false))) mSkip)
def b_is_checked : MS :=
  (mSeq (mIfS (mTNot (mTru (mCall 1 m_is_shaped (mCons (mVar 0) mNil)))) (mRet (mC (W.bl false))) mSkip)
  (mSeq (mAsg (mVar 0) (mGTup 4 (mGCons (mGN 1) (mGCons (mGN 2) (mGCons (mGN 3) (mGCons (mGN 4) mGNil))))))
  (mSeq (mAsg (mLc (mITup (mVar 3)) (.nm 6) mYes e0_is_checked [6]) (mGN 5))
  (mSeq (mFor (mIEnum2 (mCons (mVar 3) mNil)) (mGTup 2 (mGCons (mGN 7) (mGCons (mGN 6) mGNil))) l1_is_checked)
  (mRet (mMeth 9 "hold" 1 m_Rules_hold (mMake 9 5 m_Rules_init (mCons (mVar 2) (mCons (mVar 5) (mCons (mVar 4) (mCons (mC (W.bl false)) mNil))))) mNil))))))
def m_is_checked : MF := mDef 1 7 b_is_checked
def e0_L_large : ME :=
  (mOp mAdd (mC (W.int 1)) (mVar 4))
def l1_L_large : MS :=
  (mAsg (mOp mIx (mLst (mCons (mTup (mCons (mC (W.str "not")) (mCons (mVar 5) mNil))) (mCons (mTup (mCons (mC (W.str "op")) (mCons (mC (W.str "+")) (mCons (mVar 5) (mCons (mTup (mCons (mC (W.str "inputs")) mNil)) mNil))))) (mCons (mTup (mCons (mC (W.str "and")) (mCons (mTup (mCons (mC (W.str "inputs")) mNil)) (mCons (mVar 5) mNil)))) (mCons (mTup (mCons (mC (W.str "input")) (mCons (mVar 5) mNil))) mNil))))) (mCall 2 m_L_draw (mCons (mVar 0) (mCons (mC (W.int 4)) mNil)))) (mGN 5))
def b_L_large : MS :=
  (mSeq (mAsg (mOp mAdd (mC (W.int 7)) (mCall 2 m_L_draw (mCons (mVar 0) (mCons (mC (W.int 4)) mNil)))) (mGN 1))
  (mSeq (mAsg (mOp mAdd (mC (W.int 3)) (mCall 2 m_L_draw (mCons (mVar 0) (mCons (mC (W.int 4)) mNil)))) (mGN 2))
  (mSeq (mAsg (mCall 2 m_L_draw (mCons (mVar 0) (mCons (mC (W.int 4)) mNil))) (mGN 3))
  (mSeq (mIfS (mTest (mOp mEq (mVar 3) (mC (W.int 0)))) (mRet (mTup (mCons (mC (W.str "checked")) (mCons (mCB mTupleOf (mCons (mLc (mIRng1 (mCons (mVar 1) mNil)) (.nm 4) mYes e0_L_large [4]) mNil)) (mCons (mTup mNil) (mCons (mTup (mCons (mC (W.int 0)) (mCons (mC (W.int 0)) (mCons (mTup mNil) mNil)))) mNil)))))) mSkip)
  (mSeq (mIfS (mTest (mOp mEq (mVar 3) (mC (W.int 1)))) (mRet (mTup (mCons (mC (W.str "checked")) (mCons (mTup mNil) (mCons (mOp mMulR (mTup (mCons (mTup (mCons (mC (W.int 0)) (mCons (mC (W.int 0)) (mCons (mTup mNil) mNil)))) mNil)) (mVar 1)) (mCons (mTup (mCons (mC (W.int 0)) (mCons (mC (W.int 0)) (mCons (mTup mNil) mNil)))) mNil)))))) mSkip)
  (mSeq (mIfS (mTest (mOp mEq (mVar 3) (mC (W.int 2)))) (mRet (mTup (mCons (mC (W.str "checked")) (mCons (mTup mNil) (mCons (mTup (mCons (mTup (mCons (mVar 2) (mCons (mVar 2) (mCons (mTup mNil) mNil)))) mNil)) (mCons (mTup (mCons (mC (W.int 0)) (mCons (mC (W.int 0)) (mCons (mTup (mCons (mTup (mCons (mC (W.str "do")) (mCons (mC (W.int 0)) (mCons (mOp mMulR (mTup (mCons (mTup (mCons (mC (W.str "inputs")) mNil)) mNil)) (mVar 2)) mNil)))) mNil)) mNil)))) mNil)))))) mSkip)
  (mSeq (mAsg (mTup (mCons (mC (W.str "inputs")) mNil)) (mGN 5))
  (mSeq (mFor (mIRng1 (mCons (mOp mAdd (mC (W.int 8)) (mCall 2 m_L_draw (mCons (mVar 0) (mCons (mC (W.int 5)) mNil)))) mNil)) (mGN 4) l1_L_large)
  (mRet (mTup (mCons (mC (W.str "checked")) (mCons (mTup mNil) (mCons (mTup mNil) (mCons (mTup (mCons (mC (W.int 0)) (mCons (mC (W.int 0)) (mCons (mTup (mCons (mTup (mCons (mC (W.str "tell")) (mCons (mVar 5) mNil))) mNil)) mNil)))) mNil))))))))))))))
def m_L_large : MF := mDef 1 5 b_L_large
def b_L_spoilt (rec : MF) : MS :=
  (mSeq (mIfS (mTOr (mTNot (mTru (mIsi "tuple" (mVar 1)))) (mTOr (mTest (mOp mEq (mCB mLen (mCons (mVar 1) mNil)) (mC (W.int 0)))) (mTest (mOp mEq (mCall 2 m_L_draw (mCons (mVar 0) (mCons (mC (W.int 12)) mNil))) (mC (W.int 0)))))) (mRet (mVar 2)) mSkip)
  (mSeq (mAsg (mCall 2 m_L_draw (mCons (mVar 0) (mCons (mCB mLen (mCons (mVar 1) mNil)) mNil))) (mGN 3))
  (mSeq (mAsg (mCall 2 m_L_draw (mCons (mVar 0) (mCons (mC (W.int 20)) mNil))) (mGN 4))
  (mSeq (mIfS (mTest (mOp mEq (mVar 4) (mC (W.int 0)))) (mRet (mOp mAdd (mSl (mVar 1) mNoPart (mPart (mVar 3))) (mSl (mVar 1) (mPart (mOp mAdd (mVar 3) (mC (W.int 1)))) mNoPart))) mSkip)
  (mSeq (mIfS (mTest (mOp mEq (mVar 4) (mC (W.int 1)))) (mRet (mOp mAdd (mOp mAdd (mSl (mVar 1) mNoPart (mPart (mVar 3))) (mTup (mCons (mVar 2) mNil))) (mSl (mVar 1) (mPart (mVar 3)) mNoPart))) mSkip)
  (mSeq (mIfS (mTest (mOp mEq (mVar 4) (mC (W.int 2)))) (mRet (mOp mAdd (mOp mAdd (mSl (mVar 1) mNoPart (mPart (mVar 3))) (mSl (mVar 1) (mPart (mVar 3)) (mPart (mOp mAdd (mVar 3) (mC (W.int 1)))))) (mSl (mVar 1) (mPart (mVar 3)) mNoPart))) mSkip)
  (mSeq (mIfS (mTest (mOp mEq (mVar 4) (mC (W.int 3)))) (mRet (mOp mAdd (mOp mAdd (mOp mAdd (mSl (mVar 1) mNoPart (mPart (mVar 3))) (mSl (mVar 1) (mPart (mOp mAdd (mVar 3) (mC (W.int 1)))) (mPart (mOp mAdd (mVar 3) (mC (W.int 2)))))) (mSl (mVar 1) (mPart (mVar 3)) (mPart (mOp mAdd (mVar 3) (mC (W.int 1)))))) (mSl (mVar 1) (mPart (mOp mAdd (mVar 3) (mC (W.int 2)))) mNoPart))) mSkip)
  (mSeq (mIfS (mTest (mOp mEq (mVar 4) (mC (W.int 4)))) (mRet (mCB mListOf (mCons (mVar 1) mNil))) mSkip)
  (mRet (mOp mAdd (mOp mAdd (mSl (mVar 1) mNoPart (mPart (mVar 3))) (mTup (mCons (mCall 3 rec (mCons (mVar 0) (mCons (mOp mIx (mVar 1) (mVar 3)) (mCons (mVar 2) mNil)))) mNil))) (mSl (mVar 1) (mPart (mOp mAdd (mVar 3) (mC (W.int 1)))) mNoPart)))))))))))
def m_L_spoilt : Nat → MF
  | 0 => mDef 3 2 mDead
  | d + 1 => mDef 3 2 (b_L_spoilt (m_L_spoilt d))
theorem nox_L_spoilt : ∀ d, NoX (m_L_spoilt d)
  | 0 => nox_def
  | _ + 1 => nox_def
def b_L_odd : MS :=
  (mSeq (mAsg (mLst (mCons (mC (W.int 0)) (mCons (mC (W.int 1)) (mCons (mC (W.int 2)) (mCons (mC (W.int 3)) (mCons (mC (W.int 4)) (mCons (mC (W.int 5)) (mCons (mC (W.int 8)) (mCons (mC (W.int 64)) (mCons (mC (W.int 65)) (mCons (mC (W.int 65535)) (mCons (mC (W.int 65536)) (mCons (mUn mNeg (mC (W.int 1))) (mCons (mC (W.bl true)) (mCons (mC (W.bl false)) (mCons (mC W.non) (mCons (mC (W.str "")) (mCons (mC (W.str "x")) (mCons (mC (W.str "+")) (mCons (mC (W.str "mod")) (mCons (mC (W.str "give")) (mCons (mTup mNil) (mCons (mLst mNil) (mCons (mTup (mCons (mC (W.str "inputs")) mNil)) (mCons (mTup (mCons (mC (W.str "slot")) (mCons (mC (W.int 0)) mNil))) mNil))))))))))))))))))))))))) (mGN 1))
  (mSeq (mAsg (mOp mAdd (mVar 1) (mLst (mCons (mTup (mCons (mC (W.str "slot")) (mCons (mC (W.int 1)) mNil))) (mCons (mTup (mCons (mC (W.str "slot")) (mCons (mC (W.int 2)) mNil))) (mCons (mTup (mCons (mC (W.str "slot")) (mCons (mC (W.int 5)) mNil))) (mCons (mTup (mCons (mC (W.str "slot")) (mCons (mC (W.bl true)) mNil))) (mCons (mTup (mCons (mC (W.str "number")) (mCons (mC (W.int 7)) mNil))) (mCons (mTup (mCons (mC (W.str "number")) (mCons (mC (W.int 65536)) mNil))) (mCons (mTup (mCons (mC (W.str "at")) (mCons (mC (W.int 0)) (mCons (mTup (mCons (mC (W.str "inputs")) mNil)) mNil)))) (mCons (mTup (mCons (mC (W.str "at")) (mCons (mC (W.int 9)) (mCons (mTup (mCons (mC (W.str "inputs")) mNil)) mNil)))) mNil)))))))))) (mGN 1))
  (mSeq (mAsg (mOp mAdd (mVar 1) (mLst (mCons (mTup (mCons (mC (W.str "call")) (mCons (mC (W.int 0)) (mCons (mTup mNil) mNil)))) (mCons (mTup (mCons (mC (W.str "call")) (mCons (mC (W.int 1)) (mCons (mTup (mCons (mTup (mCons (mC (W.str "inputs")) mNil)) mNil)) mNil)))) (mCons (mTup (mCons (mC (W.str "input")) (mCons (mTup (mCons (mC (W.str "inputs")) mNil)) mNil))) (mCons (mTup (mCons (mC (W.str "op")) (mCons (mC (W.str "=")) (mCons (mTup (mCons (mC (W.str "inputs")) mNil)) (mCons (mTup (mCons (mC (W.str "inputs")) mNil)) mNil))))) (mCons (mTup (mCons (mC (W.int 0)) (mCons (mC (W.int 0)) (mCons (mTup mNil) mNil)))) (mCons (mTup (mCons (mC (W.int 1)) (mCons (mC (W.int 1)) (mCons (mTup mNil) mNil)))) mNil)))))))) (mGN 1))
  (mSeq (mAsg (mOp mAdd (mVar 1) (mLst (mCons (mTup (mCons (mC (W.str "let")) (mCons (mC (W.int 0)) (mCons (mTup (mCons (mC (W.str "inputs")) mNil)) mNil)))) (mCons (mTup (mCons (mC (W.str "let")) (mCons (mC (W.int 1)) (mCons (mTup (mCons (mC (W.str "inputs")) mNil)) mNil)))) (mCons (mTup (mCons (mC (W.str "let")) (mCons (mC (W.int 2)) (mCons (mTup (mCons (mC (W.str "inputs")) mNil)) mNil)))) (mCons (mTup (mCons (mC (W.str "set")) (mCons (mC (W.int 0)) (mCons (mTup (mCons (mC (W.str "inputs")) mNil)) mNil)))) (mCons (mTup (mCons (mC (W.str "give")) (mCons (mTup (mCons (mC (W.str "inputs")) mNil)) mNil))) (mCons (mTup (mCons (mTup (mCons (mC (W.str "tell")) (mCons (mTup (mCons (mC (W.str "inputs")) mNil)) mNil))) mNil)) mNil)))))))) (mGN 1))
  (mRet (mOp mIx (mVar 1) (mCall 2 m_L_draw (mCons (mVar 0) (mCons (mCB mLen (mCons (mVar 1) mNil)) mNil)))))))))
def m_L_odd : MF := mDef 1 1 b_L_odd
def b_L_is_int : MS :=
  (mRet (mAndV (mIsi "int" (mVar 0)) (mAndV (mNotV (mIsi "bool" (mVar 0))) (mAndV (mOp mLe (mVar 1) (mVar 0)) (mOp mLe (mVar 0) (mVar 2))))))
def m_L_is_int : MF := mDef 3 0 b_L_is_int
def l0_L_shape : MS :=
  (mIfS (mTest (mOp mEq (mVar 3) (mVar 0))) (mRet (mVar 4)) mSkip)
def b_L_shape : MS :=
  (mSeq (mAsg (mLst (mCons (mTup (mCons (mC (W.str "let")) (mCons (mC (W.str "nx")) mNil))) (mCons (mTup (mCons (mC (W.str "set")) (mCons (mC (W.str "nx")) mNil))) (mCons (mTup (mCons (mC (W.str "put")) (mCons (mC (W.str "nxx")) mNil))) (mCons (mTup (mCons (mC (W.str "if")) (mCons (mC (W.str "xbb")) mNil))) (mCons (mTup (mCons (mC (W.str "while")) (mCons (mC (W.str "xb")) mNil))) (mCons (mTup (mCons (mC (W.str "tell")) (mCons (mC (W.str "x")) mNil))) (mCons (mTup (mCons (mC (W.str "give")) (mCons (mC (W.str "x")) mNil))) (mCons (mTup (mCons (mC (W.str "do")) (mCons (mC (W.str "na")) mNil))) mNil))))))))) (mGN 2))
  (mSeq (mIfS (mTNot (mTru (mVar 1))) (mSeq (mAsg (mLst (mCons (mTup (mCons (mC (W.str "number")) (mCons (mC (W.str "w")) mNil))) (mCons (mTup (mCons (mC (W.str "slot")) (mCons (mC (W.str "n")) mNil))) (mCons (mTup (mCons (mC (W.str "at")) (mCons (mC (W.str "nx")) mNil))) (mCons (mTup (mCons (mC (W.str "call")) (mCons (mC (W.str "na")) mNil))) (mCons (mTup (mCons (mC (W.str "input")) (mCons (mC (W.str "x")) mNil))) (mCons (mTup (mCons (mC (W.str "inputs")) (mCons (mC (W.str "")) mNil))) (mCons (mTup (mCons (mC (W.str "not")) (mCons (mC (W.str "x")) mNil))) mNil)))))))) (mGN 2))
  (mAsg (mOp mAdd (mVar 2) (mLst (mCons (mTup (mCons (mC (W.str "op")) (mCons (mC (W.str "sxx")) mNil))) (mCons (mTup (mCons (mC (W.str "and")) (mCons (mC (W.str "xx")) mNil))) (mCons (mTup (mCons (mC (W.str "or")) (mCons (mC (W.str "xx")) mNil))) mNil))))) (mGN 2))) mSkip)
  (mSeq (mFor (mILst (mVar 2)) (mGTup 2 (mGCons (mGN 3) (mGCons (mGN 4) mGNil))) l0_L_shape)
  (mRet (mC W.non)))))
def m_L_shape : MF := mDef 2 3 b_L_shape
def e0_L_is_part (r0 r1 : MF) : ME :=
  (mCall 3 r1 (mCons (mVar 3) (mCons (mVar 2) (mCons (mOp mEq (mVar 0) (mC (W.str "b"))) mNil))))
def b_L_is_part (r0 r1 : MF) : MS :=
  (mSeq (mIfS (mTest (mOp mEq (mVar 0) (mC (W.str "x")))) (mRet (mCall 3 r1 (mCons (mVar 1) (mCons (mVar 2) (mCons (mC (W.bl false)) mNil))))) mSkip)
  (mSeq (mIfS (mTOr (mTest (mOp mEq (mVar 0) (mC (W.str "b")))) (mTest (mOp mEq (mVar 0) (mC (W.str "a"))))) (mSeq (mIfS (mTOr (mTNot (mTru (mIsi "tuple" (mVar 1)))) (mTAnd (mTest (mOp mEq (mVar 0) (mC (W.str "a")))) (mTest (mOp mGt (mCB mLen (mCons (mVar 1) mNil)) (mC (W.int 4)))))) (mRet (mC (W.bl false))) mSkip)
  (mRet (mOp mNotIn (mC (W.bl false)) (mLc (mITup (mVar 1)) (.nm 3) mYes (e0_L_is_part r0 r1) [3])))) mSkip)
  (mSeq (mIfS (mTest (mOp mEq (mVar 0) (mC (W.str "n")))) (mRet (mCall 3 m_L_is_int (mCons (mVar 1) (mCons (mC (W.int 0)) (mCons (mOp mPow (mC (W.int 10)) (mC (W.int 9))) mNil))))) mSkip)
  (mSeq (mIfS (mTest (mOp mEq (mVar 0) (mC (W.str "w")))) (mRet (mCall 3 m_L_is_int (mCons (mVar 1) (mCons (mC (W.int 0)) (mCons (mC (W.int 65535)) mNil))))) mSkip)
  (mRet (mAndV (mIsi "str" (mVar 1)) (mOp mIn (mVar 1) (mLst (mCons (mC (W.str "+")) (mCons (mC (W.str "-")) (mCons (mC (W.str "*")) (mCons (mC (W.str "/")) (mCons (mC (W.str "mod")) (mCons (mC (W.str "==")) (mCons (mC (W.str "!=")) (mCons (mC (W.str "<")) (mCons (mC (W.str "<=")) (mCons (mC (W.str ">")) (mCons (mC (W.str ">=")) mNil)))))))))))))))))))
def e0_L_is_node (r0 r1 : MF) : ME :=
  (mCall 3 r0 (mCons (mOp mIx (mVar 3) (mVar 4)) (mCons (mOp mIx (mVar 0) (mOp mAdd (mVar 4) (mC (W.int 1)))) (mCons (mOp mAdd (mVar 1) (mC (W.int 1))) mNil))))
def b_L_is_node (r0 r1 : MF) : MS :=
  (mSeq (mIfS (mTOr (mTest (mOp mGt (mVar 1) (mC (W.int 12)))) (mTOr (mTNot (mTru (mIsi "tuple" (mVar 0)))) (mTOr (mTest (mOp mEq (mCB mLen (mCons (mVar 0) mNil)) (mC (W.int 0)))) (mTNot (mTru (mIsi "str" (mOp mIx (mVar 0) (mC (W.int 0))))))))) (mRet (mC (W.bl false))) mSkip)
  (mSeq (mAsg (mCall 2 m_L_shape (mCons (mOp mIx (mVar 0) (mC (W.int 0))) (mCons (mVar 2) mNil))) (mGN 3))
  (mSeq (mIfS (mTOr (mTest (mOp mIsN (mVar 3) (mC W.non))) (mTest (mOp mNe (mCB mLen (mCons (mVar 0) mNil)) (mOp mAdd (mCB mLen (mCons (mVar 3) mNil)) (mC (W.int 1)))))) (mRet (mC (W.bl false))) mSkip)
  (mRet (mOp mNotIn (mC (W.bl false)) (mLc (mIRng1 (mCons (mCB mLen (mCons (mVar 3) mNil)) mNil)) (.nm 4) mYes (e0_L_is_node r0 r1) [4]))))))
def R_L_is_part : Nat → Nat → MF
  | 0, 0 => mDef 3 1 mDead
  | 0, _ => mDef 3 2 mDead
  | d + 1, 0 => mDef 3 1 (b_L_is_part (R_L_is_part d 0) (R_L_is_part d 1))
  | d + 1, _ => mDef 3 2 (b_L_is_node (R_L_is_part d 0) (R_L_is_part d 1))
abbrev m_L_is_part (d : Nat) : MF := R_L_is_part d 0
theorem nox_L_is_part : ∀ d, NoX (m_L_is_part d)
  | 0 => nox_def
  | _ + 1 => nox_def
abbrev m_L_is_node (d : Nat) : MF := R_L_is_part d 1
theorem nox_L_is_node : ∀ d, NoX (m_L_is_node d)
  | 0 => nox_def
  | _ + 1 => nox_def
def e0_L_called (r0 r1 : MF) : ME :=
  (mCall 2 r1 (mCons (mVar 0) (mCons (mVar 2) mNil)))
def b_L_called (r0 r1 : MF) : MS :=
  (mSeq (mIfS (mTOr (mTest (mOp mGe (mOp mIx (mVar 1) (mC (W.int 1))) (mCB mLen (mCons (mDGet (mVar 0) (mC (W.str "params"))) mNil)))) (mTest (mOp mNe (mOp mIx (mDGet (mVar 0) (mC (W.str "params"))) (mOp mIx (mVar 1) (mC (W.int 1)))) (mCB mLen (mCons (mOp mIx (mVar 1) (mC (W.int 2))) mNil))))) (mRet (mC (W.bl false))) mSkip)
  (mRet (mOp mNotIn (mC (W.bl false)) (mLc (mITup (mOp mIx (mVar 1) (mC (W.int 2)))) (.nm 2) mYes (e0_L_called r0 r1) [2]))))
def t0_L_e_holds (r0 r1 : MF) : MT :=
  (mTru (mIsi "tuple" (mVar 2)))
def e1_L_e_holds (r0 r1 : MF) : ME :=
  (mCall 2 r1 (mCons (mVar 0) (mCons (mVar 2) mNil)))
def b_L_e_holds (r0 r1 : MF) : MS :=
  (mSeq (mIfS (mTest (mOp mEq (mOp mIx (mVar 1) (mC (W.int 0))) (mC (W.str "slot")))) (mRet (mOp mIn (mOp mIx (mVar 1) (mC (W.int 1))) (mDGet (mVar 0) (mC (W.str "open"))))) mSkip)
  (mSeq (mIfS (mTest (mOp mEq (mOp mIx (mVar 1) (mC (W.int 0))) (mC (W.str "call")))) (mRet (mCall 2 r0 (mCons (mVar 0) (mCons (mVar 1) mNil)))) mSkip)
  (mSeq (mIfS (mTAnd (mTest (mOp mEq (mOp mIx (mVar 1) (mC (W.int 0))) (mC (W.str "at")))) (mTest (mOp mGe (mOp mIx (mVar 1) (mC (W.int 1))) (mCB mLen (mCons (mDGet (mVar 0) (mC (W.str "sizes"))) mNil))))) (mRet (mC (W.bl false))) mSkip)
  (mRet (mOp mNotIn (mC (W.bl false)) (mLc (mITup (mSl (mVar 1) (mPart (mC (W.int 1))) mNoPart)) (.nm 2) (t0_L_e_holds r0 r1) (e1_L_e_holds r0 r1) [2]))))))
def R_L_called : Nat → Nat → MF
  | 0, 0 => mDef 2 1 mDead
  | 0, _ => mDef 2 1 mDead
  | d + 1, 0 => mDef 2 1 (b_L_called (R_L_called d 0) (R_L_called d 1))
  | d + 1, _ => mDef 2 1 (b_L_e_holds (R_L_called d 0) (R_L_called d 1))
abbrev m_L_called (d : Nat) : MF := R_L_called d 0
theorem nox_L_called : ∀ d, NoX (m_L_called d)
  | 0 => nox_def
  | _ + 1 => nox_def
abbrev m_L_e_holds (d : Nat) : MF := R_L_called d 1
theorem nox_L_e_holds : ∀ d, NoX (m_L_e_holds d)
  | 0 => nox_def
  | _ + 1 => nox_def
def l0_L_b_holds (r0 r1 : MF) : MS :=
  (mIfS (mTNot (mTru (mCall 2 r1 (mCons (mVar 0) (mCons (mVar 3) mNil))))) (mRet (mC (W.bl false))) mSkip)
def b_L_b_holds (r0 r1 : MF) : MS :=
  (mSeq (mAsg (mDGet (mVar 0) (mC (W.str "open"))) (mGN 2))
  (mSeq (mFor (mITup (mVar 1)) (mGN 3) (l0_L_b_holds r0 r1))
  (mSeq (mDPut (mVar 0) (mC (W.str "open")) (mVar 2))
  (mRet (mC (W.bl true))))))
def e0_L_s_holds (r0 r1 : MF) : ME :=
  (mCall 2 r0 (mCons (mVar 0) (mCons (mVar 2) mNil)))
def t1_L_s_holds (r0 r1 : MF) : MT :=
  (mTru (mIsi "tuple" (mVar 3)))
def e2_L_s_holds (r0 r1 : MF) : ME :=
  (mCall 2 (m_L_e_holds 40) (mCons (mVar 0) (mCons (mVar 3) mNil)))
def b_L_s_holds (r0 r1 : MF) : MS :=
  (mSeq (mIfS (mTest (mOp mEq (mOp mIx (mVar 1) (mC (W.int 0))) (mC (W.str "do")))) (mRet (mCall 2 (m_L_called 40) (mCons (mVar 0) (mCons (mVar 1) mNil)))) mSkip)
  (mSeq (mIfS (mTest (mOp mIn (mOp mIx (mVar 1) (mC (W.int 0))) (mLst (mCons (mC (W.str "if")) (mCons (mC (W.str "while")) mNil))))) (mRet (mAndV (mCall 2 (m_L_e_holds 40) (mCons (mVar 0) (mCons (mOp mIx (mVar 1) (mC (W.int 1))) mNil))) (mOp mNotIn (mC (W.bl false)) (mLc (mITup (mSl (mVar 1) (mPart (mC (W.int 2))) mNoPart)) (.nm 2) mYes (e0_L_s_holds r0 r1) [2])))) mSkip)
  (mSeq (mIfS (mTOr (mTAnd (mTest (mOp mEq (mOp mIx (mVar 1) (mC (W.int 0))) (mC (W.str "put")))) (mTest (mOp mGe (mOp mIx (mVar 1) (mC (W.int 1))) (mCB mLen (mCons (mDGet (mVar 0) (mC (W.str "sizes"))) mNil))))) (mTAnd (mTest (mOp mEq (mOp mIx (mVar 1) (mC (W.int 0))) (mC (W.str "give")))) (mTNot (mTru (mDGet (mVar 0) (mC (W.str "give"))))))) (mRet (mC (W.bl false))) mSkip)
  (mSeq (mIfS (mTest (mOp mIn (mC (W.bl false)) (mLc (mITup (mSl (mVar 1) (mPart (mC (W.int 1))) mNoPart)) (.nm 3) (t1_L_s_holds r0 r1) (e2_L_s_holds r0 r1) [3]))) (mRet (mC (W.bl false))) mSkip)
  (mSeq (mIfS (mTest (mOp mEq (mOp mIx (mVar 1) (mC (W.int 0))) (mC (W.str "set")))) (mRet (mOp mIn (mOp mIx (mVar 1) (mC (W.int 1))) (mDGet (mVar 0) (mC (W.str "open"))))) mSkip)
  (mSeq (mIfS (mTest (mOp mEq (mOp mIx (mVar 1) (mC (W.int 0))) (mC (W.str "let")))) (mSeq (mDPut (mVar 0) (mC (W.str "open")) (mOp mAdd (mDGet (mVar 0) (mC (W.str "open"))) (mLst (mCons (mOp mIx (mVar 1) (mC (W.int 1))) mNil))))
  (mSeq (mDPut (mVar 0) (mC (W.str "next")) (mOp mAdd (mDGet (mVar 0) (mC (W.str "next"))) (mC (W.int 1))))
  (mRet (mOp mEq (mOp mIx (mVar 1) (mC (W.int 1))) (mOp mSub (mDGet (mVar 0) (mC (W.str "next"))) (mC (W.int 1))))))) mSkip)
  (mRet (mC (W.bl true)))))))))
def R_L_b_holds : Nat → Nat → MF
  | 0, 0 => mDef 2 2 mDead
  | 0, _ => mDef 2 2 mDead
  | d + 1, 0 => mDef 2 2 (b_L_b_holds (R_L_b_holds d 0) (R_L_b_holds d 1))
  | d + 1, _ => mDef 2 2 (b_L_s_holds (R_L_b_holds d 0) (R_L_b_holds d 1))
abbrev m_L_b_holds (d : Nat) : MF := R_L_b_holds d 0
theorem nox_L_b_holds : ∀ d, NoX (m_L_b_holds d)
  | 0 => nox_def
  | _ + 1 => nox_def
abbrev m_L_s_holds (d : Nat) : MF := R_L_b_holds d 1
theorem nox_L_s_holds : ∀ d, NoX (m_L_s_holds d)
  | 0 => nox_def
  | _ + 1 => nox_def
def b_L_f_holds : MS :=
  (mSeq (mIfS (mTOr (mTNot (mTru (mIsi "tuple" (mVar 2)))) (mTOr (mTest (mOp mNe (mCB mLen (mCons (mVar 2) mNil)) (mC (W.int 3)))) (mTNot (mTru (mCall 3 m_L_is_int (mCons (mOp mIx (mVar 2) (mC (W.int 0))) (mCons (mC (W.int 0)) (mCons (mVar 3) mNil)))))))) (mRet (mC (W.bl false))) mSkip)
  (mSeq (mIfS (mTOr (mTNot (mTru (mCall 3 m_L_is_int (mCons (mOp mIx (mVar 2) (mC (W.int 1))) (mCons (mC (W.int 0)) (mCons (mOp mPow (mC (W.int 10)) (mC (W.int 9))) mNil)))))) (mTNot (mTru (mCall 3 (m_L_is_part 40) (mCons (mC (W.str "b")) (mCons (mOp mIx (mVar 2) (mC (W.int 2))) (mCons (mC (W.int 1)) mNil))))))) (mRet (mC (W.bl false))) mSkip)
  (mSeq (mAsg (mDisp [((mC (W.str "sizes")), (mVar 0)), ((mC (W.str "params")), (mVar 1)), ((mC (W.str "open")), (mListRg (mOp mIx (mVar 2) (mC (W.int 0))))), ((mC (W.str "next")), (mOp mIx (mVar 2) (mC (W.int 0)))), ((mC (W.str "give")), (mOp mGt (mVar 3) (mC (W.int 0))))]) (mGN 4))
  (mRet (mAndV (mCall 2 (m_L_b_holds 40) (mCons (mVar 4) (mCons (mOp mIx (mVar 2) (mC (W.int 2))) mNil))) (mOp mEq (mDGet (mVar 4) (mC (W.str "next"))) (mOp mIx (mVar 2) (mC (W.int 1)))))))))
def m_L_f_holds : MF := mDef 4 1 b_L_f_holds
def l0_L_is_checked : MS :=
  (mIfS (mTOr (mTNot (mTru (mIsi "tuple" (mVar 1)))) (mTest (mOp mGt (mCB mLen (mCons (mVar 1) mNil)) (mC (W.int 8))))) (mRet (mC (W.bl false))) mSkip)
def e1_L_is_checked : ME :=
  (mCall 3 m_L_is_int (mCons (mVar 2) (mCons (mC (W.int 1)) (mCons (mC (W.int 64)) mNil))))
def l2_L_is_checked : MS :=
  (mSeq (mIfS (mTNot (mTru (mCall 4 m_L_f_holds (mCons (mOp mIx (mVar 0) (mC (W.int 1))) (mCons (mCB mListOf (mCons (mVar 3) mNil)) (mCons (mVar 4) (mCons (mC (W.int 4)) mNil))))))) (mRet (mC (W.bl false))) mSkip)
  (mDrop (mLM mApp (mVar 3) (mCons (mOp mIx (mVar 4) (mC (W.int 0))) mNil))))
def b_L_is_checked : MS :=
  (mSeq (mIfS (mTOr (mTNot (mTru (mIsi "tuple" (mVar 0)))) (mTOr (mTest (mOp mNe (mCB mLen (mCons (mVar 0) mNil)) (mC (W.int 4)))) (mTOr (mTNot (mTru (mIsi "str" (mOp mIx (mVar 0) (mC (W.int 0)))))) (mTest (mOp mNe (mOp mIx (mVar 0) (mC (W.int 0))) (mC (W.str "checked"))))))) (mRet (mC (W.bl false))) mSkip)
  (mSeq (mFor (mITup (mSl (mVar 0) (mPart (mC (W.int 1))) (mPart (mC (W.int 3))))) (mGN 1) l0_L_is_checked)
  (mSeq (mIfS (mTest (mOp mIn (mC (W.bl false)) (mLc (mITup (mOp mIx (mVar 0) (mC (W.int 1)))) (.nm 2) mYes e1_L_is_checked [2]))) (mRet (mC (W.bl false))) mSkip)
  (mSeq (mAsg (mLstS mNil) (mGN 3))
  (mSeq (mFor (mITup (mOp mIx (mVar 0) (mC (W.int 2)))) (mGN 4) l2_L_is_checked)
  (mRet (mCall 4 m_L_f_holds (mCons (mOp mIx (mVar 0) (mC (W.int 1))) (mCons (mVar 3) (mCons (mOp mIx (mVar 0) (mC (W.int 3))) (mCons (mC (W.int 0)) mNil)))))))))))
def m_L_is_checked : MF := mDef 1 4 b_L_is_checked
def l0_law : MS :=
  (mAsg (mCall 3 (m_L_spoilt 30) (mCons (mVar 2) (mCons (mVar 3) (mCons (mCall 1 m_L_odd (mCons (mVar 2) mNil)) mNil)))) (mGN 3))
def l1_law : MS :=
  (mSeq (mAsg (mCall 2 m_L_bag (mCons (mVar 0) (mCons (mVar 1) mNil))) (mGN 2))
  (mSeq (mAsg (mCall 2 m_L_checked (mCons (mVar 2) (mCons (mC (W.int 50)) mNil))) (mGN 3))
  (mSeq (mIfS (mTest (mOp mNotB (mCall 1 m_is_checked (mCons (mVar 3) mNil)) (mC (W.bl true)))) (mRet (mC (W.bl false))) mSkip)
  (mSeq (mIfS (mTest (mOp mEq (mCall 2 m_L_draw (mCons (mVar 2) (mCons (mC (W.int 7)) mNil))) (mC (W.int 0)))) (mAsg (mCall 1 m_L_large (mCons (mVar 2) mNil)) (mGN 3)) (mIfS (mTest (mOp mGt (mCall 2 m_L_draw (mCons (mVar 2) (mCons (mC (W.int 4)) mNil))) (mC (W.int 0)))) (mFor (mIRng1 (mCons (mOp mAdd (mC (W.int 1)) (mCall 2 m_L_draw (mCons (mVar 2) (mCons (mC (W.int 2)) mNil)))) mNil)) (mGN 5) l0_law) mSkip))
  (mSeq (mAsg (mCall 1 m_is_checked (mCons (mVar 3) mNil)) (mGN 4))
  (mIfS (mTOr (mTNot (mTru (mIsi "bool" (mVar 4)))) (mTest (mOp mNe (mVar 4) (mCall 1 m_L_is_checked (mCons (mVar 3) mNil))))) (mRet (mC (W.bl false))) mSkip))))))
def b_law : MS :=
  (mSeq (mFor (mIRng1 (mCons (mCB mMax2 (mCons (mC (W.int 1)) (mCons (mCB mMin2 (mCons (mC (W.int 6)) (mCons (mCB mLen (mCons (mVar 0) mNil)) mNil))) mNil))) mNil)) (mGN 1) l1_law)
  (mRet (mAndV (mOp mIsB (mCall 1 m_is_checked (mCons (mC W.non) mNil)) (mC (W.bl false))) (mOp mIsB (mCall 1 m_is_checked (mCons (mTup (mCons (mC (W.str "checked")) (mCons (mTup mNil) (mCons (mTup mNil) (mCons (mTup (mCons (mC (W.int 0)) (mCons (mC (W.int 0)) (mCons (mTup mNil) mNil)))) mNil))))) mNil)) (mC (W.bl true))))))
def m_law : MF := mDef 1 5 b_law
/-! ### what the top has made -/
structure Tx (w : World) (K : PySem.W.Frag) (mg : Str → Option Value) (Cl : Nat → Addr) where
  a_L_bag : Addr
  d_L_bag : FuncData
  F_L_bag : Fun K "_law_bag" "_law_bag" s_L_bag a_L_bag d_L_bag
  g_L_bag : mg "_law_bag" = some (.ref a_L_bag)
  a_L_draw : Addr
  d_L_draw : FuncData
  F_L_draw : Fun K "_law_draw" "_law_draw" s_L_draw a_L_draw d_L_draw
  g_L_draw : mg "_law_draw" = some (.ref a_L_draw)
  a_L_one : Addr
  d_L_one : FuncData
  F_L_one : Fun K "_law_one" "_law_one" s_L_one a_L_one d_L_one
  g_L_one : mg "_law_one" = some (.ref a_L_one)
  a_L_c_e : Addr
  d_L_c_e : FuncData
  F_L_c_e : Fun K "_law_c_e" "_law_c_e" s_L_c_e a_L_c_e d_L_c_e
  g_L_c_e : mg "_law_c_e" = some (.ref a_L_c_e)
  a_L_c_args : Addr
  d_L_c_args : FuncData
  F_L_c_args : Fun K "_law_c_args" "_law_c_args" s_L_c_args a_L_c_args d_L_c_args
  g_L_c_args : mg "_law_c_args" = some (.ref a_L_c_args)
  a_L_c_body : Addr
  d_L_c_body : FuncData
  F_L_c_body : Fun K "_law_c_body" "_law_c_body" s_L_c_body a_L_c_body d_L_c_body
  g_L_c_body : mg "_law_c_body" = some (.ref a_L_c_body)
  a_L_c_s : Addr
  d_L_c_s : FuncData
  F_L_c_s : Fun K "_law_c_s" "_law_c_s" s_L_c_s a_L_c_s d_L_c_s
  g_L_c_s : mg "_law_c_s" = some (.ref a_L_c_s)
  a_L_c_function : Addr
  d_L_c_function : FuncData
  F_L_c_function : Fun K "_law_c_function" "_law_c_function" s_L_c_function a_L_c_function d_L_c_function
  g_L_c_function : mg "_law_c_function" = some (.ref a_L_c_function)
  a_L_checked : Addr
  d_L_checked : FuncData
  F_L_checked : Fun K "_law_checked" "_law_checked" s_L_checked a_L_checked d_L_checked
  g_L_checked : mg "_law_checked" = some (.ref a_L_checked)
  a_is_row : Addr
  d_is_row : FuncData
  F_is_row : Fun K "is_row" "is_row" s_is_row a_is_row d_is_row
  g_is_row : mg "is_row" = some (.ref a_is_row)
  a_is_list : Addr
  d_is_list : FuncData
  F_is_list : Fun K "is_list" "is_list" s_is_list a_is_list d_is_list
  g_is_list : mg "is_list" = some (.ref a_is_list)
  a_is_integer : Addr
  d_is_integer : FuncData
  F_is_integer : Fun K "is_integer" "is_integer" s_is_integer a_is_integer d_is_integer
  g_is_integer : mg "is_integer" = some (.ref a_is_integer)
  a_is_number : Addr
  d_is_number : FuncData
  F_is_number : Fun K "is_number" "is_number" s_is_number a_is_number d_is_number
  g_is_number : mg "is_number" = some (.ref a_is_number)
  a_starts_with_string : Addr
  d_starts_with_string : FuncData
  F_starts_with_string : Fun K "starts_with_string" "starts_with_string" s_starts_with_string a_starts_with_string d_starts_with_string
  g_starts_with_string : mg "starts_with_string" = some (.ref a_starts_with_string)
  a_is_word : Addr
  d_is_word : FuncData
  F_is_word : Fun K "is_word" "is_word" s_is_word a_is_word d_is_word
  g_is_word : mg "is_word" = some (.ref a_is_word)
  a_is_leaf : Addr
  d_is_leaf : FuncData
  F_is_leaf : Fun K "is_leaf" "is_leaf" s_is_leaf a_is_leaf d_is_leaf
  g_is_leaf : mg "is_leaf" = some (.ref a_is_leaf)
  a_is_body : Addr
  d_is_body : FuncData
  F_is_body : Fun K "is_body" "is_body" s_is_body a_is_body d_is_body
  g_is_body : mg "is_body" = some (.ref a_is_body)
  a_is_statement : Addr
  d_is_statement : FuncData
  F_is_statement : Fun K "is_statement" "is_statement" s_is_statement a_is_statement d_is_statement
  g_is_statement : mg "is_statement" = some (.ref a_is_statement)
  a_is_part : Addr
  d_is_part : FuncData
  F_is_part : Fun K "is_part" "is_part" s_is_part a_is_part d_is_part
  g_is_part : mg "is_part" = some (.ref a_is_part)
  a_is_expression : Addr
  d_is_expression : FuncData
  F_is_expression : Fun K "is_expression" "is_expression" s_is_expression a_is_expression d_is_expression
  g_is_expression : mg "is_expression" = some (.ref a_is_expression)
  a_is_function : Addr
  d_is_function : FuncData
  F_is_function : Fun K "is_function" "is_function" s_is_function a_is_function d_is_function
  g_is_function : mg "is_function" = some (.ref a_is_function)
  a_is_shaped : Addr
  d_is_shaped : FuncData
  F_is_shaped : Fun K "is_shaped" "is_shaped" s_is_shaped a_is_shaped d_is_shaped
  g_is_shaped : mg "is_shaped" = some (.ref a_is_shaped)
  a_Rules_value : Addr
  d_Rules_value : FuncData
  F_Rules_value : Fun K "_value" "Rules._value" s_Rules_value a_Rules_value d_Rules_value
  m_Rules_value : Meth K (Cl 9) "_value" a_Rules_value
  a_Rules_called : Addr
  d_Rules_called : FuncData
  F_Rules_called : Fun K "_called" "Rules._called" s_Rules_called a_Rules_called d_Rules_called
  m_Rules_called : Meth K (Cl 9) "_called" a_Rules_called
  a_Rules_slot : Addr
  d_Rules_slot : FuncData
  F_Rules_slot : Fun K "_slot" "Rules._slot" s_Rules_slot a_Rules_slot d_Rules_slot
  m_Rules_slot : Meth K (Cl 9) "_slot" a_Rules_slot
  a_Rules_body : Addr
  d_Rules_body : FuncData
  F_Rules_body : Fun K "_body" "Rules._body" s_Rules_body a_Rules_body d_Rules_body
  m_Rules_body : Meth K (Cl 9) "_body" a_Rules_body
  a_Rules_statement : Addr
  d_Rules_statement : FuncData
  F_Rules_statement : Fun K "_statement" "Rules._statement" s_Rules_statement a_Rules_statement d_Rules_statement
  m_Rules_statement : Meth K (Cl 9) "_statement" a_Rules_statement
  a_Rules_hold : Addr
  d_Rules_hold : FuncData
  F_Rules_hold : Fun K "hold" "Rules.hold" s_Rules_hold a_Rules_hold d_Rules_hold
  m_Rules_hold : Meth K (Cl 9) "hold" a_Rules_hold
  a_Rules_init : Addr
  d_Rules_init : FuncData
  F_Rules_init : Fun K "__init__" "Rules.__init__" s_Rules_init a_Rules_init d_Rules_init
  M_Rules : Mk K (Cl 9) a_Rules_init
  a_is_checked : Addr
  d_is_checked : FuncData
  F_is_checked : Fun K "is_checked" "is_checked" s_is_checked a_is_checked d_is_checked
  g_is_checked : mg "is_checked" = some (.ref a_is_checked)
  a_L_large : Addr
  d_L_large : FuncData
  F_L_large : Fun K "_law_large" "_law_large" s_L_large a_L_large d_L_large
  g_L_large : mg "_law_large" = some (.ref a_L_large)
  a_L_spoilt : Addr
  d_L_spoilt : FuncData
  F_L_spoilt : Fun K "_law_spoilt" "_law_spoilt" s_L_spoilt a_L_spoilt d_L_spoilt
  g_L_spoilt : mg "_law_spoilt" = some (.ref a_L_spoilt)
  a_L_odd : Addr
  d_L_odd : FuncData
  F_L_odd : Fun K "_law_odd" "_law_odd" s_L_odd a_L_odd d_L_odd
  g_L_odd : mg "_law_odd" = some (.ref a_L_odd)
  a_L_is_int : Addr
  d_L_is_int : FuncData
  F_L_is_int : Fun K "_law_is_int" "_law_is_int" s_L_is_int a_L_is_int d_L_is_int
  g_L_is_int : mg "_law_is_int" = some (.ref a_L_is_int)
  a_L_shape : Addr
  d_L_shape : FuncData
  F_L_shape : Fun K "_law_shape" "_law_shape" s_L_shape a_L_shape d_L_shape
  g_L_shape : mg "_law_shape" = some (.ref a_L_shape)
  a_L_is_part : Addr
  d_L_is_part : FuncData
  F_L_is_part : Fun K "_law_is_part" "_law_is_part" s_L_is_part a_L_is_part d_L_is_part
  g_L_is_part : mg "_law_is_part" = some (.ref a_L_is_part)
  a_L_is_node : Addr
  d_L_is_node : FuncData
  F_L_is_node : Fun K "_law_is_node" "_law_is_node" s_L_is_node a_L_is_node d_L_is_node
  g_L_is_node : mg "_law_is_node" = some (.ref a_L_is_node)
  a_L_called : Addr
  d_L_called : FuncData
  F_L_called : Fun K "_law_called" "_law_called" s_L_called a_L_called d_L_called
  g_L_called : mg "_law_called" = some (.ref a_L_called)
  a_L_e_holds : Addr
  d_L_e_holds : FuncData
  F_L_e_holds : Fun K "_law_e_holds" "_law_e_holds" s_L_e_holds a_L_e_holds d_L_e_holds
  g_L_e_holds : mg "_law_e_holds" = some (.ref a_L_e_holds)
  a_L_b_holds : Addr
  d_L_b_holds : FuncData
  F_L_b_holds : Fun K "_law_b_holds" "_law_b_holds" s_L_b_holds a_L_b_holds d_L_b_holds
  g_L_b_holds : mg "_law_b_holds" = some (.ref a_L_b_holds)
  a_L_s_holds : Addr
  d_L_s_holds : FuncData
  F_L_s_holds : Fun K "_law_s_holds" "_law_s_holds" s_L_s_holds a_L_s_holds d_L_s_holds
  g_L_s_holds : mg "_law_s_holds" = some (.ref a_L_s_holds)
  a_L_f_holds : Addr
  d_L_f_holds : FuncData
  F_L_f_holds : Fun K "_law_f_holds" "_law_f_holds" s_L_f_holds a_L_f_holds d_L_f_holds
  g_L_f_holds : mg "_law_f_holds" = some (.ref a_L_f_holds)
  a_L_is_checked : Addr
  d_L_is_checked : FuncData
  F_L_is_checked : Fun K "_law_is_checked" "_law_is_checked" s_L_is_checked a_L_is_checked d_L_is_checked
  g_L_is_checked : mg "_law_is_checked" = some (.ref a_L_is_checked)
  a_law : Addr
  d_law : FuncData
  F_law : Fun K "law" "law" s_law a_law d_law
  g_law : mg "law" = some (.ref a_law)
  k_Rules : Cls K (Cl 9)
  g_Rules : mg "Rules" = some (.ref (Cl 9))
  n_Rules__open : NoAttr K (Cl 9) "_open"
  n_Rules__sizes : NoAttr K (Cl 9) "_sizes"
  n_Rules__params : NoAttr K (Cl 9) "_params"
  n_Rules__next : NoAttr K (Cl 9) "_next"
  n_Rules__may_give : NoAttr K (Cl 9) "_may_give"
  n_Rules__function : NoAttr K (Cl 9) "_function"
  c_MOST_WORD : GC K mg "MOST_WORD" w_MOST_WORD
  c_SIGNS : GC K mg "SIGNS" w_SIGNS
  c_MOST_NESTED : GC K mg "MOST_NESTED" w_MOST_NESTED
  c_MOST_PARAMS : GC K mg "MOST_PARAMS" w_MOST_PARAMS
  c_MOST_TABLES : GC K mg "MOST_TABLES" w_MOST_TABLES
  c_MOST_FUNCTIONS : GC K mg "MOST_FUNCTIONS" w_MOST_FUNCTIONS
  c_MOST_SIZE : GC K mg "MOST_SIZE" w_MOST_SIZE
  aD_STATEMENTS : Addr
  D_STATEMENTS : KDw K w aD_STATEMENTS zt_STATEMENTS
  gD_STATEMENTS : mg "STATEMENTS" = some (.ref aD_STATEMENTS)
  aD_EXPRESSIONS : Addr
  D_EXPRESSIONS : KDw K w aD_EXPRESSIONS zt_EXPRESSIONS
  gD_EXPRESSIONS : mg "EXPRESSIONS" = some (.ref aD_EXPRESSIONS)
  b_all : mg "all" = none
  b_bool : mg "bool" = none
  b_enumerate : mg "enumerate" = none
  b_int : mg "int" = none
  b_isinstance : mg "isinstance" = none
  b_len : mg "len" = none
  b_list : mg "list" = none
  b_max : mg "max" = none
  b_min : mg "min" = none
  b_range : mg "range" = none
  b_str : mg "str" = none
  b_tuple : mg "tuple" = none
  b_zip : mg "zip" = none
section
variable {P : Program} {w : World} {K : PySem.W.Frag} {Cl : Nat → Addr} {mg : Str → Option Value} {base : Heap}
theorem sc_L_bag : FnScope ["_law_script", "_law_k", "_law_cell"] ["_law_script", "_law_k"] (defScope s_L_bag) := ⟨rfl, rfl, rfl, by decide +kernel, rfl, by decide +kernel, by decide +kernel⟩
theorem bi_L_bag (T : Tx w K mg Cl) : Binds K T.d_L_bag ["_law_script", "_law_k"] [] := T.F_L_bag.binds fun _ _ _ _ _ _ us hl => match us, hl with | [_, _], _ => rfl
theorem ok_L_bag (T : Tx w K mg Cl) : FnOk P w K mg base CX0 1 T.a_L_bag T.d_L_bag ["_law_script", "_law_k"] (spM K Cl 2 m_L_bag) := by
  refine fn_ok T.F_L_bag sc_L_bag rfl rfl fun cdv A outer s H E hr => ?_
  have hN := (sc_L_bag).nd
  exact (jss_cons (js_set 2 hN je_int)
    (jss_cons (js_if (jt_cmp o_lt (je_var 1) (je_callB c_len T.b_len PySem.boot_len (ja_cons (je_var 0) ja_nil)) (nomark _)) (jss_one (js_set 2 hN (je_callTy c_int T.b_int PyProof.Rows.boot_int (ja_cons (je_ix (je_var 0) (je_var 1)) ja_nil)))) jss_nil)
    (jss_cons (js_if (jt_cmp o_ge (je_var 2) (je_op o_pow je_int je_int) (nomark _)) (jss_one (js_ret (je_lstS (ja_cons (je_var 2) (ja_cons (je_var 2) (ja_cons (je_var 1) ja_nil)))))) jss_nil)
    (jss_one (js_ret (je_lstS (ja_cons je_int (ja_cons (je_var 2) (ja_cons (je_var 1) ja_nil)))))))))
theorem sc_L_draw : FnScope ["_law_bag_here", "_law_many", "_law_seed", "_law_rest"] ["_law_bag_here", "_law_many"] (defScope s_L_draw) := ⟨rfl, rfl, rfl, by decide +kernel, rfl, by decide +kernel, by decide +kernel⟩
theorem bi_L_draw (T : Tx w K mg Cl) : Binds K T.d_L_draw ["_law_bag_here", "_law_many"] [] := T.F_L_draw.binds fun _ _ _ _ _ _ us hl => match us, hl with | [_, _], _ => rfl
theorem ok_L_draw (T : Tx w K mg Cl) : FnOk P w K mg base CX0 1 T.a_L_draw T.d_L_draw ["_law_bag_here", "_law_many"] (spM K Cl 2 m_L_draw) := by
  refine fn_ok T.F_L_draw sc_L_draw rfl rfl fun cdv A outer s H E hr => ?_
  have hN := (sc_L_draw).nd
  exact (jss_cons (js_if (jt_cmp (o_eq (room65 hr)) (je_ix (je_var 0) je_int) je_int (nomark _)) (jss_cons (js_set 2 hN (je_op o_mod (je_callTy c_int T.b_int PyProof.Rows.boot_int (ja_cons (je_op o_add (je_op o_add (je_op o_mul (je_ix (je_var 0) je_int) je_int) (je_op o_mul (je_ix (je_var 0) je_int) je_int)) je_int) ja_nil)) je_int))
    (jss_cons (js_asg (je_op o_add (je_op o_mul (je_var 2) je_int) (je_op o_mod (je_callTy c_int T.b_int PyProof.Rows.boot_int (ja_cons (je_op o_add (je_op o_mul (je_var 2) (je_var 2)) (je_op o_mul (je_ix (je_var 0) je_int) je_int)) ja_nil)) je_int)) (jg_sub (E := E0) (je_var 0) je_int))
    (jss_one (js_asg (je_var 2) (jg_sub (E := E0) (je_var 0) je_int))))) jss_nil)
    (jss_cons (js_set 3 hN (je_ix (je_var 0) je_int))
    (jss_cons (js_asg (je_op o_fdiv (je_var 3) (je_var 1)) (jg_sub (E := E0) (je_var 0) je_int))
    (jss_one (js_ret (je_op o_mod (je_callTy c_int T.b_int PyProof.Rows.boot_int (ja_cons (je_var 3) ja_nil)) (je_var 1)))))))
theorem sc_L_one : FnScope ["_law_bag_here", "_law_row"] ["_law_bag_here", "_law_row"] (defScope s_L_one) := ⟨rfl, rfl, rfl, by decide +kernel, rfl, by decide +kernel, by decide +kernel⟩
theorem bi_L_one (T : Tx w K mg Cl) : Binds K T.d_L_one ["_law_bag_here", "_law_row"] [] := T.F_L_one.binds fun _ _ _ _ _ _ us hl => match us, hl with | [_, _], _ => rfl
theorem ok_L_one (T : Tx w K mg Cl) : FnOk P w K mg base CX0 2 T.a_L_one T.d_L_one ["_law_bag_here", "_law_row"] (spM K Cl 2 m_L_one) := by
  refine fn_ok T.F_L_one sc_L_one rfl rfl fun cdv A outer s H E hr => ?_
  have hN := (sc_L_one).nd
  exact (jss_one (js_ret (je_ix (je_var 1) (je_call (ok_L_draw T) (hr.mono (by decide)) T.g_L_draw T.F_L_draw.kp (bi_L_draw T) (let0 nox_def) (ja_cons (je_var 0) (ja_cons (je_callB c_len T.b_len PySem.boot_len (ja_cons (je_var 1) ja_nil)) ja_nil))))))
theorem sc_L_c_e : FnScope ["_law_bag_here", "_law_env", "_law_depth", "_law_pick", "_law_leaves", "_law_slot", "_law_number", "_law_one_here", "_law_two"] ["_law_bag_here", "_law_env", "_law_depth"] (defScope s_L_c_e) := ⟨rfl, rfl, rfl, by decide +kernel, rfl, by decide +kernel, by decide +kernel⟩
theorem bi_L_c_e (T : Tx w K mg Cl) : Binds K T.d_L_c_e ["_law_bag_here", "_law_env", "_law_depth"] [] := T.F_L_c_e.binds fun _ _ _ _ _ _ us hl => match us, hl with | [_, _, _], _ => rfl
theorem sc_L_c_args : FnScope ["_law_bag_here", "_law_env", "_law_number", "_law_depth", "_law_k"] ["_law_bag_here", "_law_env", "_law_number", "_law_depth"] (defScope s_L_c_args) := ⟨rfl, rfl, rfl, by decide +kernel, rfl, by decide +kernel, by decide +kernel⟩
theorem bi_L_c_args (T : Tx w K mg Cl) : Binds K T.d_L_c_args ["_law_bag_here", "_law_env", "_law_number", "_law_depth"] [] := T.F_L_c_args.binds fun _ _ _ _ _ _ us hl => match us, hl with | [_, _, _, _], _ => rfl
theorem okS_L_c_e (T : Tx w K mg Cl) : ∀ d : Nat, (FnOk P w K mg base CX0 (d + 3) T.a_L_c_e T.d_L_c_e ["_law_bag_here", "_law_env", "_law_depth"] (spM K Cl 3 (m_L_c_e d))) ∧ (FnOk P w K mg base CX0 (d + 3) T.a_L_c_args T.d_L_c_args ["_law_bag_here", "_law_env", "_law_number", "_law_depth"] (spM K Cl 4 (m_L_c_args d)))
  | 0 => by
    refine ⟨?_, ?_⟩
    · rw [Nat.zero_add]
      exact fn_ok T.F_L_c_e sc_L_c_e rfl rfl fun cdv A outer s H E hr => jss_dead
    · rw [Nat.zero_add]
      exact fn_ok T.F_L_c_args sc_L_c_args rfl rfl fun cdv A outer s H E hr => jss_dead
  | d + 1 => by
    obtain ⟨ih0, ih1⟩ := okS_L_c_e T d
    refine ⟨?_, ?_⟩
    · refine fn_ok T.F_L_c_e sc_L_c_e rfl rfl fun cdv A outer s H E hr => ?_
      have hN := (sc_L_c_e).nd
      exact (jss_cons (js_dput (room1 hr) (je_var 1) je_str (je_op o_sub (je_dget (room1 hr) (je_var 1) je_str) je_int))
    (jss_cons (js_set 3 hN (je_call (ok_L_draw T) (hr.mono (by omega)) T.g_L_draw T.F_L_draw.kp (bi_L_draw T) (let0 nox_def) (ja_cons (je_var 0) (ja_cons je_int ja_nil))))
    (jss_cons (js_if (jt_w (jw_or (jt_cmp o_lt (je_var 2) je_int (nomark _)) (jw_or (jt_cmp o_lt (je_dget (room1 hr) (je_var 1) je_str) je_int (nomark _)) (jw_or1 (jt_cmp o_lt (je_var 3) je_int (nomark _)))))) (jss_cons (js_set 4 hN (je_lst (ja_cons (je_tup (ja_cons je_str (ja_cons (je_call (ok_L_one T) (hr.mono (by omega)) T.g_L_one T.F_L_one.kp (bi_L_one T) (let0 nox_def) (ja_cons (je_var 0) (ja_cons (je_lst (ja_cons je_int (ja_cons je_int (ja_cons je_int (ja_cons je_int (ja_cons je_int (ja_cons (je_call (ok_L_draw T) (hr.mono (by omega)) T.g_L_draw T.F_L_draw.kp (bi_L_draw T) (let0 nox_def) (ja_cons (je_var 0) (ja_cons je_int ja_nil))) ja_nil))))))) ja_nil))) ja_nil))) (ja_cons (je_tup (ja_cons je_str ja_nil)) ja_nil))))
    (jss_cons (js_set 4 hN (je_op o_add (je_var 4) (je_lc rfl hN (ji_lst (je_dget (room1 hr) (je_var 1) je_str)) (blkOk_by (own := [("_law_slot", 5)]) (by show blkC ["_law_bag_here", "_law_env", "_law_depth", "_law_pick", "_law_leaves", "_law_slot", "_law_number", "_law_one_here", "_law_two"] (defScope s_L_c_e) _ [("_law_slot", 5)] = true; decide +kernel)) (fun _ _ _ _ _ => (jn_nm 5 hN)) (fun _ _ _ _ _ => jts_nil) (fun _ _ _ _ _ => (je_tup (ja_cons je_str (ja_cons (je_var 5) ja_nil)))))))
    (jss_one (js_ret (je_ix (je_var 4) (je_ix (je_lst (ja_cons (je_call (ok_L_draw T) (hr.mono (by omega)) T.g_L_draw T.F_L_draw.kp (bi_L_draw T) (let0 nox_def) (ja_cons (je_var 0) (ja_cons (je_callB c_len T.b_len PySem.boot_len (ja_cons (je_var 4) ja_nil)) ja_nil))) (ja_cons (je_op o_sub (je_callB c_len T.b_len PySem.boot_len (ja_cons (je_var 4) ja_nil)) je_int) ja_nil))) (je_call (ok_L_draw T) (hr.mono (by omega)) T.g_L_draw T.F_L_draw.kp (bi_L_draw T) (let0 nox_def) (ja_cons (je_var 0) (ja_cons je_int ja_nil))))))))) jss_nil)
    (jss_cons (js_if (jt_cmp (o_eq (room65 hr)) (je_var 3) je_int (nomark _)) (jss_one (js_ret (je_tup (ja_cons je_str (ja_cons (je_call ih0 (hr.mono (by omega)) T.g_L_c_e T.F_L_c_e.kp (bi_L_c_e T) (let0 (nox_L_c_e d)) (ja_cons (je_var 0) (ja_cons (je_var 1) (ja_cons (je_op o_sub (je_var 2) je_int) ja_nil)))) ja_nil))))) jss_nil)
    (jss_cons (js_if (jt_w (jw_and (jt_cmp (o_eq (room65 hr)) (je_var 3) je_int (nomark _)) (jw_and1 (jt_cmp o_gt (je_callB c_len T.b_len PySem.boot_len (ja_cons (je_dget (room1 hr) (je_var 1) je_str) ja_nil)) je_int (nomark _))))) (jss_one (js_ret (je_tup (ja_cons je_str (ja_cons (je_call (ok_L_draw T) (hr.mono (by omega)) T.g_L_draw T.F_L_draw.kp (bi_L_draw T) (let0 nox_def) (ja_cons (je_var 0) (ja_cons (je_callB c_len T.b_len PySem.boot_len (ja_cons (je_dget (room1 hr) (je_var 1) je_str) ja_nil)) ja_nil))) (ja_cons (je_call ih0 (hr.mono (by omega)) T.g_L_c_e T.F_L_c_e.kp (bi_L_c_e T) (let0 (nox_L_c_e d)) (ja_cons (je_var 0) (ja_cons (je_var 1) (ja_cons (je_op o_sub (je_var 2) je_int) ja_nil)))) ja_nil)))))) jss_nil)
    (jss_cons (js_if (jt_cmp (o_eq (room65 hr)) (je_var 3) je_int (nomark _)) (jss_one (js_ret (je_tup (ja_cons je_str (ja_cons (je_call ih0 (hr.mono (by omega)) T.g_L_c_e T.F_L_c_e.kp (bi_L_c_e T) (let0 (nox_L_c_e d)) (ja_cons (je_var 0) (ja_cons (je_var 1) (ja_cons (je_op o_sub (je_var 2) je_int) ja_nil)))) ja_nil))))) jss_nil)
    (jss_cons (js_if (jt_w (jw_and (jt_cmp (o_eq (room65 hr)) (je_var 3) je_int (nomark _)) (jw_and1 (jt_cmp o_gt (je_callB c_len T.b_len PySem.boot_len (ja_cons (je_dget (room1 hr) (je_var 1) je_str) ja_nil)) je_int (nomark _))))) (jss_cons (js_set 6 hN (je_call (ok_L_draw T) (hr.mono (by omega)) T.g_L_draw T.F_L_draw.kp (bi_L_draw T) (let0 nox_def) (ja_cons (je_var 0) (ja_cons (je_callB c_len T.b_len PySem.boot_len (ja_cons (je_dget (room1 hr) (je_var 1) je_str) ja_nil)) ja_nil))))
    (jss_one (js_ret (je_tup (ja_cons je_str (ja_cons (je_var 6) (ja_cons (je_call ih1 (hr.mono (by omega)) T.g_L_c_args T.F_L_c_args.kp (bi_L_c_args T) (let0 (nox_L_c_args d)) (ja_cons (je_var 0) (ja_cons (je_var 1) (ja_cons (je_var 6) (ja_cons (je_op o_sub (je_var 2) je_int) ja_nil))))) ja_nil))))))) jss_nil)
    (jss_cons (js_set 7 hN (je_call ih0 (hr.mono (by omega)) T.g_L_c_e T.F_L_c_e.kp (bi_L_c_e T) (let0 (nox_L_c_e d)) (ja_cons (je_var 0) (ja_cons (je_var 1) (ja_cons (je_op o_sub (je_var 2) je_int) ja_nil)))))
    (jss_cons (js_set 8 hN (je_call ih0 (hr.mono (by omega)) T.g_L_c_e T.F_L_c_e.kp (bi_L_c_e T) (let0 (nox_L_c_e d)) (ja_cons (je_var 0) (ja_cons (je_var 1) (ja_cons (je_op o_sub (je_var 2) je_int) ja_nil)))))
    (jss_cons (js_if (jt_cmp (o_eq (room65 hr)) (je_var 3) je_int (nomark _)) (jss_one (js_ret (je_tup (ja_cons (je_call (ok_L_one T) (hr.mono (by omega)) T.g_L_one T.F_L_one.kp (bi_L_one T) (let0 nox_def) (ja_cons (je_var 0) (ja_cons (je_lst (ja_cons je_str (ja_cons je_str ja_nil))) ja_nil))) (ja_cons (je_var 7) (ja_cons (je_var 8) ja_nil)))))) jss_nil)
    (jss_one (js_ret (je_tup (ja_cons je_str (ja_cons (je_call (ok_L_one T) (hr.mono (by omega)) T.g_L_one T.F_L_one.kp (bi_L_one T) (let0 nox_def) (ja_cons (je_var 0) (ja_cons (je_lst (ja_cons je_str (ja_cons je_str (ja_cons je_str (ja_cons je_str (ja_cons je_str (ja_cons je_str (ja_cons je_str (ja_cons je_str (ja_cons je_str (ja_cons je_str (ja_cons je_str (ja_cons je_str (ja_cons je_str (ja_cons je_str (ja_cons je_str ja_nil)))))))))))))))) ja_nil))) (ja_cons (je_var 7) (ja_cons (je_var 8) ja_nil)))))))))))))))))
    · refine fn_ok T.F_L_c_args sc_L_c_args rfl rfl fun cdv A outer s H E hr => ?_
      have hN := (sc_L_c_args).nd
      exact (jss_one (js_ret (je_callTy c_tuple T.b_tuple PyProof.Rows.boot_tuple (ja_cons (je_lc rfl hN (ji_rng1 T.b_range (ja_cons (je_ix (je_dget (room1 hr) (je_var 1) je_str) (je_var 2)) ja_nil)) (blkOk_by (own := [("_law_k", 4)]) (by show blkC ["_law_bag_here", "_law_env", "_law_number", "_law_depth", "_law_k"] (defScope s_L_c_args) _ [("_law_k", 4)] = true; decide +kernel)) (fun _ _ _ _ _ => (jn_nm 4 hN)) (fun _ _ _ _ _ => jts_nil) (fun _ _ _ _ _ => (je_call ih0 (hr.mono (by omega)) T.g_L_c_e T.F_L_c_e.kp (bi_L_c_e T) (let0 (nox_L_c_e d)) (ja_cons (je_var 0) (ja_cons (je_var 1) (ja_cons (je_var 3) ja_nil)))))) ja_nil))))
theorem ok_L_c_e (T : Tx w K mg Cl) (d : Nat) : FnOk P w K mg base CX0 (d + 3) T.a_L_c_e T.d_L_c_e ["_law_bag_here", "_law_env", "_law_depth"] (spM K Cl 3 (m_L_c_e d)) := (okS_L_c_e T d).1
theorem ok_L_c_args (T : Tx w K mg Cl) (d : Nat) : FnOk P w K mg base CX0 (d + 3) T.a_L_c_args T.d_L_c_args ["_law_bag_here", "_law_env", "_law_number", "_law_depth"] (spM K Cl 4 (m_L_c_args d)) := (okS_L_c_e T d).2
theorem sc_L_c_body : FnScope ["_law_bag_here", "_law_env", "_law_depth", "_law_most", "_law_count", "_law_rows", "_law_k"] ["_law_bag_here", "_law_env", "_law_depth", "_law_most"] (defScope s_L_c_body) := ⟨rfl, rfl, rfl, by decide +kernel, rfl, by decide +kernel, by decide +kernel⟩
theorem bi_L_c_body (T : Tx w K mg Cl) : Binds K T.d_L_c_body ["_law_bag_here", "_law_env", "_law_depth", "_law_most"] [] := T.F_L_c_body.binds fun _ _ _ _ _ _ us hl => match us, hl with | [_, _, _, _], _ => rfl
theorem sc_L_c_s : FnScope ["_law_bag_here", "_law_env", "_law_depth", "_law_pick", "_law_one_here", "_law_body", "_law_other", "_law_number", "_law_value"] ["_law_bag_here", "_law_env", "_law_depth"] (defScope s_L_c_s) := ⟨rfl, rfl, rfl, by decide +kernel, rfl, by decide +kernel, by decide +kernel⟩
theorem bi_L_c_s (T : Tx w K mg Cl) : Binds K T.d_L_c_s ["_law_bag_here", "_law_env", "_law_depth"] [] := T.F_L_c_s.binds fun _ _ _ _ _ _ us hl => match us, hl with | [_, _, _], _ => rfl
theorem okS_L_c_body (T : Tx w K mg Cl) : ∀ d : Nat, (FnOk P w K mg base CX0 (d + 12) T.a_L_c_body T.d_L_c_body ["_law_bag_here", "_law_env", "_law_depth", "_law_most"] (spM K Cl 4 (m_L_c_body d))) ∧ (FnOk P w K mg base CX0 (d + 12) T.a_L_c_s T.d_L_c_s ["_law_bag_here", "_law_env", "_law_depth"] (spM K Cl 3 (m_L_c_s d)))
  | 0 => by
    refine ⟨?_, ?_⟩
    · rw [Nat.zero_add]
      exact fn_ok T.F_L_c_body sc_L_c_body rfl rfl fun cdv A outer s H E hr => jss_dead
    · rw [Nat.zero_add]
      exact fn_ok T.F_L_c_s sc_L_c_s rfl rfl fun cdv A outer s H E hr => jss_dead
  | d + 1 => by
    obtain ⟨ih0, ih1⟩ := okS_L_c_body T d
    refine ⟨?_, ?_⟩
    · refine fn_ok T.F_L_c_body sc_L_c_body rfl rfl fun cdv A outer s H E hr => ?_
      have hN := (sc_L_c_body).nd
      exact (jss_cons (js_set 4 hN (je_callB c_len T.b_len PySem.boot_len (ja_cons (je_dget (room1 hr) (je_var 1) je_str) ja_nil)))
    (jss_cons (js_set 5 hN (je_lstS ja_nil))
    (jss_cons (js_for PassesOwn.never rfl (ji_rng1 T.b_range (ja_cons (je_call (ok_L_draw T) (hr.mono (by omega)) T.g_L_draw T.F_L_draw.kp (bi_L_draw T) (let0 nox_def) (ja_cons (je_var 0) (ja_cons (je_op o_add (je_var 3) je_int) ja_nil))) ja_nil)) (jg_name 6 hN) (jss_one (js_if (jt_cmp o_gt (je_dget (room1 hr) (je_var 1) je_str) je_int (nomark _)) (jss_one (js_expr (je_lm PySem.F.slot_list_append PySem.F.type_list_append m_app (je_var 5) (ja_cons (je_call ih1 (hr.mono (by omega)) T.g_L_c_s T.F_L_c_s.kp (bi_L_c_s T) (let0 (nox_L_c_s d)) (ja_cons (je_var 0) (ja_cons (je_var 1) (ja_cons (je_var 2) ja_nil)))) ja_nil)))) jss_nil)))
    (jss_cons (js_dput (room1 hr) (je_var 1) je_str (je_sl (je_dget (room1 hr) (je_var 1) je_str) jo_none (jo_some (je_var 4))))
    (jss_one (js_ret (je_callTy c_tuple T.b_tuple PyProof.Rows.boot_tuple (ja_cons (je_var 5) ja_nil))))))))
    · refine fn_ok T.F_L_c_s sc_L_c_s rfl rfl fun cdv A outer s H E hr => ?_
      have hN := (sc_L_c_s).nd
      exact (jss_cons (js_dput (room1 hr) (je_var 1) je_str (je_op o_sub (je_dget (room1 hr) (je_var 1) je_str) je_int))
    (jss_cons (js_set 3 hN (je_call (ok_L_draw T) (hr.mono (by omega)) T.g_L_draw T.F_L_draw.kp (bi_L_draw T) (let0 nox_def) (ja_cons (je_var 0) (ja_cons je_int ja_nil))))
    (jss_cons (js_if (jt_w (jw_and (jt_cmp o_lt (je_var 3) je_int (nomark _)) (jw_and1 (jt_cmp o_gt (je_var 2) je_int (nomark _))))) (jss_cons (js_set 4 hN (je_call (ok_L_c_e T 8) (hr.mono (by omega)) T.g_L_c_e T.F_L_c_e.kp (bi_L_c_e T) (let0 (nox_L_c_e 8)) (ja_cons (je_var 0) (ja_cons (je_var 1) (ja_cons je_int ja_nil)))))
    (jss_cons (js_set 5 hN (je_call ih0 (hr.mono (by omega)) T.g_L_c_body T.F_L_c_body.kp (bi_L_c_body T) (let0 (nox_L_c_body d)) (ja_cons (je_var 0) (ja_cons (je_var 1) (ja_cons (je_op o_sub (je_var 2) je_int) (ja_cons je_int ja_nil))))))
    (jss_cons (js_if (jt_cmp (o_eq (room65 hr)) (je_var 3) je_int (nomark _)) (jss_one (js_ret (je_tup (ja_cons je_str (ja_cons (je_var 4) (ja_cons (je_var 5) ja_nil)))))) jss_nil)
    (jss_cons (js_set 6 hN (je_tup ja_nil))
    (jss_cons (js_if (jt_cmp (o_eq (room65 hr)) (je_var 3) je_int (nomark _)) (jss_one (js_set 6 hN (je_call ih0 (hr.mono (by omega)) T.g_L_c_body T.F_L_c_body.kp (bi_L_c_body T) (let0 (nox_L_c_body d)) (ja_cons (je_var 0) (ja_cons (je_var 1) (ja_cons (je_op o_sub (je_var 2) je_int) (ja_cons je_int ja_nil))))))) jss_nil)
    (jss_one (js_ret (je_tup (ja_cons je_str (ja_cons (je_var 4) (ja_cons (je_var 5) (ja_cons (je_var 6) ja_nil)))))))))))) jss_nil)
    (jss_cons (js_if (jt_w (jw_and (jt_cmp (o_eq (room65 hr)) (je_var 3) je_int (nomark _)) (jw_and1 (jt_cmp o_gt (je_callB c_len T.b_len PySem.boot_len (ja_cons (je_dget (room1 hr) (je_var 1) je_str) ja_nil)) je_int (nomark _))))) (jss_one (js_ret (je_tup (ja_cons je_str (ja_cons (je_call (ok_L_draw T) (hr.mono (by omega)) T.g_L_draw T.F_L_draw.kp (bi_L_draw T) (let0 nox_def) (ja_cons (je_var 0) (ja_cons (je_callB c_len T.b_len PySem.boot_len (ja_cons (je_dget (room1 hr) (je_var 1) je_str) ja_nil)) ja_nil))) (ja_cons (je_call (ok_L_c_e T 8) (hr.mono (by omega)) T.g_L_c_e T.F_L_c_e.kp (bi_L_c_e T) (let0 (nox_L_c_e 8)) (ja_cons (je_var 0) (ja_cons (je_var 1) (ja_cons je_int ja_nil)))) (ja_cons (je_call (ok_L_c_e T 8) (hr.mono (by omega)) T.g_L_c_e T.F_L_c_e.kp (bi_L_c_e T) (let0 (nox_L_c_e 8)) (ja_cons (je_var 0) (ja_cons (je_var 1) (ja_cons je_int ja_nil)))) ja_nil))))))) jss_nil)
    (jss_cons (js_if (jt_w (jw_and (jt_cmp (o_eq (room65 hr)) (je_var 3) je_int (nomark _)) (jw_and1 (jt_cmp o_gt (je_callB c_len T.b_len PySem.boot_len (ja_cons (je_dget (room1 hr) (je_var 1) je_str) ja_nil)) je_int (nomark _))))) (jss_cons (js_set 7 hN (je_call (ok_L_draw T) (hr.mono (by omega)) T.g_L_draw T.F_L_draw.kp (bi_L_draw T) (let0 nox_def) (ja_cons (je_var 0) (ja_cons (je_callB c_len T.b_len PySem.boot_len (ja_cons (je_dget (room1 hr) (je_var 1) je_str) ja_nil)) ja_nil))))
    (jss_one (js_ret (je_tup (ja_cons je_str (ja_cons (je_var 7) (ja_cons (je_call (ok_L_c_args T 8) (hr.mono (by omega)) T.g_L_c_args T.F_L_c_args.kp (bi_L_c_args T) (let0 (nox_L_c_args 8)) (ja_cons (je_var 0) (ja_cons (je_var 1) (ja_cons (je_var 7) (ja_cons je_int ja_nil))))) ja_nil))))))) jss_nil)
    (jss_cons (js_if (jt_w (jw_and (jt_cmp (o_eq (room65 hr)) (je_var 3) je_int (nomark _)) (jw_and1 (jt_tru (je_dget (room1 hr) (je_var 1) je_str))))) (jss_one (js_ret (je_tup (ja_cons je_str (ja_cons (je_call (ok_L_c_e T 8) (hr.mono (by omega)) T.g_L_c_e T.F_L_c_e.kp (bi_L_c_e T) (let0 (nox_L_c_e 8)) (ja_cons (je_var 0) (ja_cons (je_var 1) (ja_cons je_int ja_nil)))) ja_nil))))) jss_nil)
    (jss_cons (js_if (jt_w (jw_and (jt_cmp o_lt (je_var 3) je_int (nomark _)) (jw_and1 (jt_cmp o_gt (je_callB c_len T.b_len PySem.boot_len (ja_cons (je_dget (room1 hr) (je_var 1) je_str) ja_nil)) je_int (nomark _))))) (jss_one (js_ret (je_tup (ja_cons je_str (ja_cons (je_call (ok_L_one T) (hr.mono (by omega)) T.g_L_one T.F_L_one.kp (bi_L_one T) (let0 nox_def) (ja_cons (je_var 0) (ja_cons (je_dget (room1 hr) (je_var 1) je_str) ja_nil))) (ja_cons (je_call (ok_L_c_e T 8) (hr.mono (by omega)) T.g_L_c_e T.F_L_c_e.kp (bi_L_c_e T) (let0 (nox_L_c_e 8)) (ja_cons (je_var 0) (ja_cons (je_var 1) (ja_cons je_int ja_nil)))) ja_nil)))))) jss_nil)
    (jss_cons (js_if (jt_cmp o_lt (je_var 3) je_int (nomark _)) (jss_cons (js_set 8 hN (je_call (ok_L_c_e T 8) (hr.mono (by omega)) T.g_L_c_e T.F_L_c_e.kp (bi_L_c_e T) (let0 (nox_L_c_e 8)) (ja_cons (je_var 0) (ja_cons (je_var 1) (ja_cons je_int ja_nil)))))
    (jss_cons (js_dput (room1 hr) (je_var 1) je_str (je_op o_add (je_dget (room1 hr) (je_var 1) je_str) (je_lst (ja_cons (je_dget (room1 hr) (je_var 1) je_str) ja_nil))))
    (jss_cons (js_dput (room1 hr) (je_var 1) je_str (je_op o_add (je_dget (room1 hr) (je_var 1) je_str) je_int))
    (jss_one (js_ret (je_tup (ja_cons je_str (ja_cons (je_op o_sub (je_dget (room1 hr) (je_var 1) je_str) je_int) (ja_cons (je_var 8) ja_nil))))))))) jss_nil)
    (jss_one (js_ret (je_tup (ja_cons je_str (ja_cons (je_call (ok_L_c_e T 8) (hr.mono (by omega)) T.g_L_c_e T.F_L_c_e.kp (bi_L_c_e T) (let0 (nox_L_c_e 8)) (ja_cons (je_var 0) (ja_cons (je_var 1) (ja_cons je_int ja_nil)))) ja_nil)))))))))))))
theorem ok_L_c_body (T : Tx w K mg Cl) (d : Nat) : FnOk P w K mg base CX0 (d + 12) T.a_L_c_body T.d_L_c_body ["_law_bag_here", "_law_env", "_law_depth", "_law_most"] (spM K Cl 4 (m_L_c_body d)) := (okS_L_c_body T d).1
theorem ok_L_c_s (T : Tx w K mg Cl) (d : Nat) : FnOk P w K mg base CX0 (d + 12) T.a_L_c_s T.d_L_c_s ["_law_bag_here", "_law_env", "_law_depth"] (spM K Cl 3 (m_L_c_s d)) := (okS_L_c_body T d).2
theorem sc_L_c_function : FnScope ["_law_bag_here", "_law_sizes", "_law_params", "_law_count", "_law_give", "_law_fuel", "_law_env", "_law_body"] ["_law_bag_here", "_law_sizes", "_law_params", "_law_count", "_law_give", "_law_fuel"] (defScope s_L_c_function) := ⟨rfl, rfl, rfl, by decide +kernel, rfl, by decide +kernel, by decide +kernel⟩
theorem bi_L_c_function (T : Tx w K mg Cl) : Binds K T.d_L_c_function ["_law_bag_here", "_law_sizes", "_law_params", "_law_count", "_law_give", "_law_fuel"] [] := T.F_L_c_function.binds fun _ _ _ _ _ _ us hl => match us, hl with | [_, _, _, _, _, _], _ => rfl
theorem ok_L_c_function (T : Tx w K mg Cl) : FnOk P w K mg base CX0 27 T.a_L_c_function T.d_L_c_function ["_law_bag_here", "_law_sizes", "_law_params", "_law_count", "_law_give", "_law_fuel"] (spM K Cl 6 m_L_c_function) := by
  refine fn_ok T.F_L_c_function sc_L_c_function rfl rfl fun cdv A outer s H E hr => ?_
  have hN := (sc_L_c_function).nd
  exact (jss_cons (js_set 6 hN (je_disp (jp_cons je_str (je_var 1) (jp_cons je_str (je_var 2) (jp_cons je_str (je_listRg T.b_list T.b_range (je_var 3)) (jp_cons je_str (je_var 3) (jp_cons je_str (je_var 4) (jp_cons je_str (je_var 5) jp_nil))))))))
    (jss_cons (js_set 7 hN (je_call (ok_L_c_body T 14) (hr.mono (by decide)) T.g_L_c_body T.F_L_c_body.kp (bi_L_c_body T) (let0 (nox_L_c_body 14)) (ja_cons (je_var 0) (ja_cons (je_var 6) (ja_cons je_int (ja_cons je_int ja_nil))))))
    (jss_one (js_ret (je_tup (ja_cons (je_var 3) (ja_cons (je_dget (room1 hr) (je_var 6) je_str) (ja_cons (je_var 7) ja_nil))))))))
theorem sc_L_checked : FnScope ["_law_bag_here", "_law_fuel", "_law_sizes", "_law_k", "_law_params", "_law_functions", "_law_count"] ["_law_bag_here", "_law_fuel"] (defScope s_L_checked) := ⟨rfl, rfl, rfl, by decide +kernel, rfl, by decide +kernel, by decide +kernel⟩
theorem bi_L_checked (T : Tx w K mg Cl) : Binds K T.d_L_checked ["_law_bag_here", "_law_fuel"] [] := T.F_L_checked.binds fun _ _ _ _ _ _ us hl => match us, hl with | [_, _], _ => rfl
theorem ok_L_checked (T : Tx w K mg Cl) : FnOk P w K mg base CX0 28 T.a_L_checked T.d_L_checked ["_law_bag_here", "_law_fuel"] (spM K Cl 2 m_L_checked) := by
  refine fn_ok T.F_L_checked sc_L_checked rfl rfl fun cdv A outer s H E hr => ?_
  have hN := (sc_L_checked).nd
  exact (jss_cons (js_set 2 hN (je_callTy c_tuple T.b_tuple PyProof.Rows.boot_tuple (ja_cons (je_lc rfl hN (ji_rng1 T.b_range (ja_cons (je_call (ok_L_draw T) (hr.mono (by decide)) T.g_L_draw T.F_L_draw.kp (bi_L_draw T) (let0 nox_def) (ja_cons (je_var 0) (ja_cons je_int ja_nil))) ja_nil)) (blkOk_by (own := [("_law_k", 3)]) (by show blkC ["_law_bag_here", "_law_fuel", "_law_sizes", "_law_k", "_law_params", "_law_functions", "_law_count"] (defScope s_L_checked) _ [("_law_k", 3)] = true; decide +kernel)) (fun _ _ _ _ _ => (jn_nm 3 hN)) (fun _ _ _ _ _ => jts_nil) (fun _ _ _ _ _ => (je_call (ok_L_one T) (hr.mono (by decide)) T.g_L_one T.F_L_one.kp (bi_L_one T) (let0 nox_def) (ja_cons (je_var 0) (ja_cons (je_lst (ja_cons je_int (ja_cons je_int (ja_cons je_int (ja_cons je_int (ja_cons (je_op o_add je_int (je_call (ok_L_draw T) (hr.mono (by decide)) T.g_L_draw T.F_L_draw.kp (bi_L_draw T) (let0 nox_def) (ja_cons (je_var 0) (ja_cons je_int ja_nil)))) ja_nil)))))) ja_nil))))) ja_nil)))
    (jss_cons (js_set 4 hN (je_lstS ja_nil))
    (jss_cons (js_set 5 hN (je_lstS ja_nil))
    (jss_cons (js_for PassesOwn.never rfl (ji_rng1 T.b_range (ja_cons (je_call (ok_L_one T) (hr.mono (by decide)) T.g_L_one T.F_L_one.kp (bi_L_one T) (let0 nox_def) (ja_cons (je_var 0) (ja_cons (je_lst (ja_cons je_int (ja_cons je_int (ja_cons je_int (ja_cons je_int ja_nil))))) ja_nil))) ja_nil)) (jg_name 3 hN) (jss_cons (js_set 6 hN (je_call (ok_L_one T) (hr.mono (by decide)) T.g_L_one T.F_L_one.kp (bi_L_one T) (let0 nox_def) (ja_cons (je_var 0) (ja_cons (je_lst (ja_cons je_int (ja_cons je_int (ja_cons je_int (ja_cons je_int ja_nil))))) ja_nil))))
    (jss_cons (js_expr (je_lm PySem.F.slot_list_append PySem.F.type_list_append m_app (je_var 5) (ja_cons (je_call (ok_L_c_function T) (hr.mono (by decide)) T.g_L_c_function T.F_L_c_function.kp (bi_L_c_function T) (let0 nox_def) (ja_cons (je_var 0) (ja_cons (je_var 2) (ja_cons (je_callTy c_list T.b_list PyProof.Rows.boot_list (ja_cons (je_var 4) ja_nil)) (ja_cons (je_var 6) (ja_cons je_bl (ja_cons (je_op o_fdiv (je_var 1) je_int) ja_nil))))))) ja_nil)))
    (jss_one (js_expr (je_lm PySem.F.slot_list_append PySem.F.type_list_append m_app (je_var 4) (ja_cons (je_var 6) ja_nil)))))))
    (jss_one (js_ret (je_tup (ja_cons je_str (ja_cons (je_var 2) (ja_cons (je_callTy c_tuple T.b_tuple PyProof.Rows.boot_tuple (ja_cons (je_var 5) ja_nil)) (ja_cons (je_call (ok_L_c_function T) (hr.mono (by decide)) T.g_L_c_function T.F_L_c_function.kp (bi_L_c_function T) (let0 nox_def) (ja_cons (je_var 0) (ja_cons (je_var 2) (ja_cons (je_var 4) (ja_cons je_int (ja_cons je_bl (ja_cons (je_var 1) ja_nil))))))) ja_nil)))))))))))
theorem sc_is_row : FnScope ["value", "size"] ["value", "size"] (defScope s_is_row) := ⟨rfl, rfl, rfl, by decide +kernel, rfl, by decide +kernel, by decide +kernel⟩
theorem bi_is_row (T : Tx w K mg Cl) : Binds K T.d_is_row ["value", "size"] [] := T.F_is_row.binds fun _ _ _ _ _ _ us hl => match us, hl with | [_, _], _ => rfl
theorem ok_is_row (T : Tx w K mg Cl) : FnOk P w K mg base CX0 1 T.a_is_row T.d_is_row ["value", "size"] (spM K Cl 2 m_is_row) := by
  refine fn_ok T.F_is_row sc_is_row rfl rfl fun cdv A outer s H E hr => ?_
  have hN := (sc_is_row).nd
  exact (jss_one (js_ret (je_and (je_isi T.b_isinstance T.b_tuple PyProof.Rows.boot_tuple (je_var 0)) (je_one (je_cmp (o_eq (room65 hr)) (je_callB c_len T.b_len PySem.boot_len (ja_cons (je_var 0) ja_nil)) (je_var 1) (nomark _))))))
theorem sc_is_list : FnScope ["value", "most"] ["value", "most"] (defScope s_is_list) := ⟨rfl, rfl, rfl, by decide +kernel, rfl, by decide +kernel, by decide +kernel⟩
theorem bi_is_list (T : Tx w K mg Cl) : Binds K T.d_is_list ["value", "most"] [] := T.F_is_list.binds fun _ _ _ _ _ _ us hl => match us, hl with | [_, _], _ => rfl
theorem ok_is_list (T : Tx w K mg Cl) : FnOk P w K mg base CX0 1 T.a_is_list T.d_is_list ["value", "most"] (spM K Cl 2 m_is_list) := by
  refine fn_ok T.F_is_list sc_is_list rfl rfl fun cdv A outer s H E hr => ?_
  have hN := (sc_is_list).nd
  exact (jss_one (js_ret (je_and (je_isi T.b_isinstance T.b_tuple PyProof.Rows.boot_tuple (je_var 0)) (je_one (je_cmp o_le (je_callB c_len T.b_len PySem.boot_len (ja_cons (je_var 0) ja_nil)) (je_var 1) (nomark _))))))
theorem sc_is_integer : FnScope ["value", "least", "greatest"] ["value", "least", "greatest"] (defScope s_is_integer) := ⟨rfl, rfl, rfl, by decide +kernel, rfl, by decide +kernel, by decide +kernel⟩
theorem bi_is_integer (T : Tx w K mg Cl) : Binds K T.d_is_integer ["value", "least", "greatest"] [] := T.F_is_integer.binds fun _ _ _ _ _ _ us hl => match us, hl with | [_, _, _], _ => rfl
theorem ok_is_integer (T : Tx w K mg Cl) : FnOk P w K mg base CX0 1 T.a_is_integer T.d_is_integer ["value", "least", "greatest"] (spM K Cl 3 m_is_integer) := by
  refine fn_ok T.F_is_integer sc_is_integer rfl rfl fun cdv A outer s H E hr => ?_
  have hN := (sc_is_integer).nd
  exact (jss_one (js_ret (je_and (je_isi T.b_isinstance T.b_int PyProof.Rows.boot_int (je_var 0)) (je_and (je_not (je_isi T.b_isinstance T.b_bool PyProof.Rows.boot_bool (je_var 0))) (je_one (je_chain o_le o_le (je_var 1) (je_var 0) (je_var 2)))))))
theorem sc_is_number : FnScope ["value"] ["value"] (defScope s_is_number) := ⟨rfl, rfl, rfl, by decide +kernel, rfl, by decide +kernel, by decide +kernel⟩
theorem bi_is_number (T : Tx w K mg Cl) : Binds K T.d_is_number ["value"] [] := T.F_is_number.binds fun _ _ _ _ _ _ us hl => match us, hl with | [_], _ => rfl
theorem ok_is_number (T : Tx w K mg Cl) : FnOk P w K mg base CX0 1 T.a_is_number T.d_is_number ["value"] (spM K Cl 1 m_is_number) := by
  refine fn_ok T.F_is_number sc_is_number rfl rfl fun cdv A outer s H E hr => ?_
  have hN := (sc_is_number).nd
  exact (jss_one (js_ret (je_and (je_isi T.b_isinstance T.b_int PyProof.Rows.boot_int (je_var 0)) (je_and (je_not (je_isi T.b_isinstance T.b_bool PyProof.Rows.boot_bool (je_var 0))) (je_one (je_cmp o_ge (je_var 0) je_int (nomark _)))))))
theorem sc_starts_with_string : FnScope ["value"] ["value"] (defScope s_starts_with_string) := ⟨rfl, rfl, rfl, by decide +kernel, rfl, by decide +kernel, by decide +kernel⟩
theorem bi_starts_with_string (T : Tx w K mg Cl) : Binds K T.d_starts_with_string ["value"] [] := T.F_starts_with_string.binds fun _ _ _ _ _ _ us hl => match us, hl with | [_], _ => rfl
theorem ok_starts_with_string (T : Tx w K mg Cl) : FnOk P w K mg base CX0 1 T.a_starts_with_string T.d_starts_with_string ["value"] (spM K Cl 1 m_starts_with_string) := by
  refine fn_ok T.F_starts_with_string sc_starts_with_string rfl rfl fun cdv A outer s H E hr => ?_
  have hN := (sc_starts_with_string).nd
  exact (jss_one (js_ret (je_and (je_isi T.b_isinstance T.b_tuple PyProof.Rows.boot_tuple (je_var 0)) (je_and (je_cmp (o_ne (room65 hr)) (je_var 0) (je_tup ja_nil) (nomark _)) (je_one (je_isi T.b_isinstance T.b_str PyProof.Rows.boot_str (je_ix (je_var 0) je_int)))))))
theorem sc_is_word : FnScope ["value"] ["value"] (defScope s_is_word) := ⟨rfl, rfl, rfl, by decide +kernel, rfl, by decide +kernel, by decide +kernel⟩
theorem bi_is_word (T : Tx w K mg Cl) : Binds K T.d_is_word ["value"] [] := T.F_is_word.binds fun _ _ _ _ _ _ us hl => match us, hl with | [_], _ => rfl
theorem ok_is_word (T : Tx w K mg Cl) : FnOk P w K mg base CX0 2 T.a_is_word T.d_is_word ["value"] (spM K Cl 1 m_is_word) := by
  refine fn_ok T.F_is_word sc_is_word rfl rfl fun cdv A outer s H E hr => ?_
  have hN := (sc_is_word).nd
  exact (jss_one (js_ret (je_call (ok_is_integer T) (hr.mono (by decide)) T.g_is_integer T.F_is_integer.kp (bi_is_integer T) (let0 nox_def) (ja_cons (je_var 0) (ja_cons je_int (ja_cons (je_glob T.c_MOST_WORD) ja_nil))))))
theorem sc_is_leaf : FnScope ["form", "value"] ["form", "value"] (defScope s_is_leaf) := ⟨rfl, rfl, rfl, by decide +kernel, rfl, by decide +kernel, by decide +kernel⟩
theorem bi_is_leaf (T : Tx w K mg Cl) : Binds K T.d_is_leaf ["form", "value"] [] := T.F_is_leaf.binds fun _ _ _ _ _ _ us hl => match us, hl with | [_, _], _ => rfl
theorem ok_is_leaf (T : Tx w K mg Cl) : FnOk P w K mg base CX0 3 T.a_is_leaf T.d_is_leaf ["form", "value"] (spM K Cl 2 m_is_leaf) := by
  refine fn_ok T.F_is_leaf sc_is_leaf rfl rfl fun cdv A outer s H E hr => ?_
  have hN := (sc_is_leaf).nd
  exact (jss_cons (js_if (jt_cmp (o_in (room65 hr)) (je_var 0) (je_tup (ja_cons je_str (ja_cons je_str (ja_cons je_str ja_nil)))) rfl) (jss_one (js_ret (je_call (ok_is_number T) (hr.mono (by decide)) T.g_is_number T.F_is_number.kp (bi_is_number T) (let0 nox_def) (ja_cons (je_var 1) ja_nil)))) jss_nil)
    (jss_cons (js_if (jt_cmp (o_eq (room65 hr)) (je_var 0) je_str (nomark _)) (jss_one (js_ret (je_call (ok_is_word T) (hr.mono (by decide)) T.g_is_word T.F_is_word.kp (bi_is_word T) (let0 nox_def) (ja_cons (je_var 1) ja_nil)))) jss_nil)
    (jss_one (js_ret (je_and (je_isi T.b_isinstance T.b_str PyProof.Rows.boot_str (je_var 1)) (je_one (je_cmp (o_in (room65 hr)) (je_var 1) (je_glob T.c_SIGNS) rfl)))))))
theorem sc_is_body : FnScope ["value", "depth", "one"] ["value", "depth"] (defScope s_is_body) := ⟨rfl, rfl, rfl, by decide +kernel, rfl, by decide +kernel, by decide +kernel⟩
theorem bi_is_body (T : Tx w K mg Cl) : Binds K T.d_is_body ["value", "depth"] [] := T.F_is_body.binds fun _ _ _ _ _ _ us hl => match us, hl with | [_, _], _ => rfl
theorem sc_is_statement : FnScope ["value", "depth", "forms", "form", "one"] ["value", "depth"] (defScope s_is_statement) := ⟨rfl, rfl, rfl, by decide +kernel, rfl, by decide +kernel, by decide +kernel⟩
theorem bi_is_statement (T : Tx w K mg Cl) : Binds K T.d_is_statement ["value", "depth"] [] := T.F_is_statement.binds fun _ _ _ _ _ _ us hl => match us, hl with | [_, _], _ => rfl
theorem sc_is_part : FnScope ["form", "value", "depth", "one"] ["form", "value", "depth"] (defScope s_is_part) := ⟨rfl, rfl, rfl, by decide +kernel, rfl, by decide +kernel, by decide +kernel⟩
theorem bi_is_part (T : Tx w K mg Cl) : Binds K T.d_is_part ["form", "value", "depth"] [] := T.F_is_part.binds fun _ _ _ _ _ _ us hl => match us, hl with | [_, _, _], _ => rfl
theorem sc_is_expression : FnScope ["value", "depth", "forms", "form", "one"] ["value", "depth"] (defScope s_is_expression) := ⟨rfl, rfl, rfl, by decide +kernel, rfl, by decide +kernel, by decide +kernel⟩
theorem bi_is_expression (T : Tx w K mg Cl) : Binds K T.d_is_expression ["value", "depth"] [] := T.F_is_expression.binds fun _ _ _ _ _ _ us hl => match us, hl with | [_, _], _ => rfl
theorem okS_is_body (T : Tx w K mg Cl) : ∀ d : Nat, (FnOk P w K mg base CX0 (d + 4) T.a_is_body T.d_is_body ["value", "depth"] (spM K Cl 2 (m_is_body d))) ∧ (FnOk P w K mg base CX0 (d + 4) T.a_is_statement T.d_is_statement ["value", "depth"] (spM K Cl 2 (m_is_statement d))) ∧ (FnOk P w K mg base CX0 (d + 4) T.a_is_part T.d_is_part ["form", "value", "depth"] (spM K Cl 3 (m_is_part d))) ∧ (FnOk P w K mg base CX0 (d + 4) T.a_is_expression T.d_is_expression ["value", "depth"] (spM K Cl 2 (m_is_expression d)))
  | 0 => by
    refine ⟨?_, ?_, ?_, ?_⟩
    · rw [Nat.zero_add]
      exact fn_ok T.F_is_body sc_is_body rfl rfl fun cdv A outer s H E hr => jss_dead
    · rw [Nat.zero_add]
      exact fn_ok T.F_is_statement sc_is_statement rfl rfl fun cdv A outer s H E hr => jss_dead
    · rw [Nat.zero_add]
      exact fn_ok T.F_is_part sc_is_part rfl rfl fun cdv A outer s H E hr => jss_dead
    · rw [Nat.zero_add]
      exact fn_ok T.F_is_expression sc_is_expression rfl rfl fun cdv A outer s H E hr => jss_dead
  | d + 1 => by
    obtain ⟨ih0, ih1, ih2, ih3⟩ := okS_is_body T d
    refine ⟨?_, ?_, ?_, ?_⟩
    · refine fn_ok T.F_is_body sc_is_body rfl rfl fun cdv A outer s H E hr => ?_
      have hN := (sc_is_body).nd
      exact (jss_one (js_ret (je_and (je_isi T.b_isinstance T.b_tuple PyProof.Rows.boot_tuple (je_var 0)) (je_one (je_callB (c_all rfl) T.b_all PyProof.Rows.boot_all (ja_cons (je_lc rfl hN (ji_tup (je_var 0)) (blkOk_by (own := [("one", 2)]) (by show blkC ["value", "depth", "one"] (defScope s_is_body) _ [("one", 2)] = true; decide +kernel)) (fun _ _ _ _ _ => (jn_nm 2 hN)) (fun _ _ _ _ _ => jts_nil) (fun _ _ _ _ _ => (je_call ih1 (hr.mono (by omega)) T.g_is_statement T.F_is_statement.kp (bi_is_statement T) (let0 (nox_is_statement d)) (ja_cons (je_var 2) (ja_cons (je_var 1) ja_nil))))) ja_nil))))))
    · refine fn_ok T.F_is_statement sc_is_statement rfl rfl fun cdv A outer s H E hr => ?_
      have hN := (sc_is_statement).nd
      exact (jss_cons (js_if (jt_w (jw_or (jt_cmp o_gt (je_var 1) (je_glob T.c_MOST_NESTED) (nomark _)) (jw_or (jt_not (jt_tru (je_call (ok_starts_with_string T) (hr.mono (by omega)) T.g_starts_with_string T.F_starts_with_string.kp (bi_starts_with_string T) (let0 nox_def) (ja_cons (je_var 0) ja_nil)))) (jw_or1 (jt_notInV T.D_STATEMENTS T.gD_STATEMENTS (je_ix (je_var 0) je_int)))))) (jss_one (js_ret je_bl)) jss_nil)
    (jss_cons (js_set 2 hN (je_itemV T.D_STATEMENTS T.gD_STATEMENTS (je_ix (je_var 0) je_int)))
    (jss_one (js_ret (je_and (je_cmp (o_eq (room65 hr)) (je_callB c_len T.b_len PySem.boot_len (ja_cons (je_var 0) ja_nil)) (je_op o_add (je_callB c_len T.b_len PySem.boot_len (ja_cons (je_var 2) ja_nil)) je_int) (nomark _)) (je_one (je_callB (c_all rfl) T.b_all PyProof.Rows.boot_all (ja_cons (je_lc rfl hN (ji_zip T.b_zip (ja_cons (je_var 2) (ja_cons (je_sl (je_var 0) (jo_some je_int) jo_none) ja_nil))) (blkOk_by (own := [("form", 3), ("one", 4)]) (by show blkC ["value", "depth", "forms", "form", "one"] (defScope s_is_statement) _ [("form", 3), ("one", 4)] = true; decide +kernel)) (fun _ _ _ _ _ => (jn_tp rfl (jns_cons (jn_nm 3 hN) (jns_cons (jn_nm 4 hN) jns_nil)))) (fun _ _ _ _ _ => jts_nil) (fun _ _ _ _ _ => (je_call ih2 (hr.mono (by omega)) T.g_is_part T.F_is_part.kp (bi_is_part T) (let0 (nox_is_part d)) (ja_cons (je_var 3) (ja_cons (je_var 4) (ja_cons (je_op o_add (je_var 1) je_int) ja_nil)))))) ja_nil))))))))
    · refine fn_ok T.F_is_part sc_is_part rfl rfl fun cdv A outer s H E hr => ?_
      have hN := (sc_is_part).nd
      exact (jss_cons (js_if (jt_cmp (o_eq (room65 hr)) (je_var 0) je_str (nomark _)) (jss_one (js_ret (je_call ih3 (hr.mono (by omega)) T.g_is_expression T.F_is_expression.kp (bi_is_expression T) (let0 (nox_is_expression d)) (ja_cons (je_var 1) (ja_cons (je_var 2) ja_nil))))) jss_nil)
    (jss_cons (js_if (jt_cmp (o_eq (room65 hr)) (je_var 0) je_str (nomark _)) (jss_one (js_ret (je_call ih0 (hr.mono (by omega)) T.g_is_body T.F_is_body.kp (bi_is_body T) (let0 (nox_is_body d)) (ja_cons (je_var 1) (ja_cons (je_var 2) ja_nil))))) jss_nil)
    (jss_cons (js_if (jt_cmp (o_eq (room65 hr)) (je_var 0) je_str (nomark _)) (jss_one (js_ret (je_and (je_call (ok_is_list T) (hr.mono (by omega)) T.g_is_list T.F_is_list.kp (bi_is_list T) (let0 nox_def) (ja_cons (je_var 1) (ja_cons (je_glob T.c_MOST_PARAMS) ja_nil))) (je_one (je_callB (c_all rfl) T.b_all PyProof.Rows.boot_all (ja_cons (je_lc rfl hN (ji_tup (je_var 1)) (blkOk_by (own := [("one", 3)]) (by show blkC ["form", "value", "depth", "one"] (defScope s_is_part) _ [("one", 3)] = true; decide +kernel)) (fun _ _ _ _ _ => (jn_nm 3 hN)) (fun _ _ _ _ _ => jts_nil) (fun _ _ _ _ _ => (je_call ih3 (hr.mono (by omega)) T.g_is_expression T.F_is_expression.kp (bi_is_expression T) (let0 (nox_is_expression d)) (ja_cons (je_var 3) (ja_cons (je_var 2) ja_nil))))) ja_nil)))))) jss_nil)
    (jss_one (js_ret (je_call (ok_is_leaf T) (hr.mono (by omega)) T.g_is_leaf T.F_is_leaf.kp (bi_is_leaf T) (let0 nox_def) (ja_cons (je_var 0) (ja_cons (je_var 1) ja_nil))))))))
    · refine fn_ok T.F_is_expression sc_is_expression rfl rfl fun cdv A outer s H E hr => ?_
      have hN := (sc_is_expression).nd
      exact (jss_cons (js_if (jt_w (jw_or (jt_cmp o_gt (je_var 1) (je_glob T.c_MOST_NESTED) (nomark _)) (jw_or (jt_not (jt_tru (je_call (ok_starts_with_string T) (hr.mono (by omega)) T.g_starts_with_string T.F_starts_with_string.kp (bi_starts_with_string T) (let0 nox_def) (ja_cons (je_var 0) ja_nil)))) (jw_or1 (jt_notInV T.D_EXPRESSIONS T.gD_EXPRESSIONS (je_ix (je_var 0) je_int)))))) (jss_one (js_ret je_bl)) jss_nil)
    (jss_cons (js_set 2 hN (je_itemV T.D_EXPRESSIONS T.gD_EXPRESSIONS (je_ix (je_var 0) je_int)))
    (jss_one (js_ret (je_and (je_cmp (o_eq (room65 hr)) (je_callB c_len T.b_len PySem.boot_len (ja_cons (je_var 0) ja_nil)) (je_op o_add (je_callB c_len T.b_len PySem.boot_len (ja_cons (je_var 2) ja_nil)) je_int) (nomark _)) (je_one (je_callB (c_all rfl) T.b_all PyProof.Rows.boot_all (ja_cons (je_lc rfl hN (ji_zip T.b_zip (ja_cons (je_var 2) (ja_cons (je_sl (je_var 0) (jo_some je_int) jo_none) ja_nil))) (blkOk_by (own := [("form", 3), ("one", 4)]) (by show blkC ["value", "depth", "forms", "form", "one"] (defScope s_is_expression) _ [("form", 3), ("one", 4)] = true; decide +kernel)) (fun _ _ _ _ _ => (jn_tp rfl (jns_cons (jn_nm 3 hN) (jns_cons (jn_nm 4 hN) jns_nil)))) (fun _ _ _ _ _ => jts_nil) (fun _ _ _ _ _ => (je_call ih2 (hr.mono (by omega)) T.g_is_part T.F_is_part.kp (bi_is_part T) (let0 (nox_is_part d)) (ja_cons (je_var 3) (ja_cons (je_var 4) (ja_cons (je_op o_add (je_var 1) je_int) ja_nil)))))) ja_nil))))))))
theorem ok_is_body (T : Tx w K mg Cl) (d : Nat) : FnOk P w K mg base CX0 (d + 4) T.a_is_body T.d_is_body ["value", "depth"] (spM K Cl 2 (m_is_body d)) := (okS_is_body T d).1
theorem ok_is_statement (T : Tx w K mg Cl) (d : Nat) : FnOk P w K mg base CX0 (d + 4) T.a_is_statement T.d_is_statement ["value", "depth"] (spM K Cl 2 (m_is_statement d)) := (okS_is_body T d).2.1
theorem ok_is_part (T : Tx w K mg Cl) (d : Nat) : FnOk P w K mg base CX0 (d + 4) T.a_is_part T.d_is_part ["form", "value", "depth"] (spM K Cl 3 (m_is_part d)) := (okS_is_body T d).2.2.1
theorem ok_is_expression (T : Tx w K mg Cl) (d : Nat) : FnOk P w K mg base CX0 (d + 4) T.a_is_expression T.d_is_expression ["value", "depth"] (spM K Cl 2 (m_is_expression d)) := (okS_is_body T d).2.2.2
theorem sc_is_function : FnScope ["value", "most"] ["value", "most"] (defScope s_is_function) := ⟨rfl, rfl, rfl, by decide +kernel, rfl, by decide +kernel, by decide +kernel⟩
theorem bi_is_function (T : Tx w K mg Cl) : Binds K T.d_is_function ["value", "most"] [] := T.F_is_function.binds fun _ _ _ _ _ _ us hl => match us, hl with | [_, _], _ => rfl
theorem ok_is_function (T : Tx w K mg Cl) : FnOk P w K mg base CX0 45 T.a_is_function T.d_is_function ["value", "most"] (spM K Cl 2 m_is_function) := by
  refine fn_ok T.F_is_function sc_is_function rfl rfl fun cdv A outer s H E hr => ?_
  have hN := (sc_is_function).nd
  exact (jss_cons (js_if (jt_w (jw_or (jt_not (jt_tru (je_call (ok_is_row T) (hr.mono (by decide)) T.g_is_row T.F_is_row.kp (bi_is_row T) (let0 nox_def) (ja_cons (je_var 0) (ja_cons je_int ja_nil))))) (jw_or (jt_not (jt_tru (je_call (ok_is_integer T) (hr.mono (by decide)) T.g_is_integer T.F_is_integer.kp (bi_is_integer T) (let0 nox_def) (ja_cons (je_ix (je_var 0) je_int) (ja_cons je_int (ja_cons (je_var 1) ja_nil)))))) (jw_or1 (jt_not (jt_tru (je_call (ok_is_number T) (hr.mono (by decide)) T.g_is_number T.F_is_number.kp (bi_is_number T) (let0 nox_def) (ja_cons (je_ix (je_var 0) je_int) ja_nil)))))))) (jss_one (js_ret je_bl)) jss_nil)
    (jss_one (js_ret (je_call (ok_is_body T 40) (hr.mono (by decide)) T.g_is_body T.F_is_body.kp (bi_is_body T) (let0 (nox_is_body 40)) (ja_cons (je_ix (je_var 0) je_int) (ja_cons je_int ja_nil))))))
theorem sc_is_shaped : FnScope ["value", "size", "one"] ["value"] (defScope s_is_shaped) := ⟨rfl, rfl, rfl, by decide +kernel, rfl, by decide +kernel, by decide +kernel⟩
theorem bi_is_shaped (T : Tx w K mg Cl) : Binds K T.d_is_shaped ["value"] [] := T.F_is_shaped.binds fun _ _ _ _ _ _ us hl => match us, hl with | [_], _ => rfl
theorem ok_is_shaped (T : Tx w K mg Cl) : FnOk P w K mg base CX0 46 T.a_is_shaped T.d_is_shaped ["value"] (spM K Cl 1 m_is_shaped) := by
  refine fn_ok T.F_is_shaped sc_is_shaped rfl rfl fun cdv A outer s H E hr => ?_
  have hN := (sc_is_shaped).nd
  exact (jss_cons (js_if (jt_w (jw_or (jt_not (jt_tru (je_call (ok_is_row T) (hr.mono (by decide)) T.g_is_row T.F_is_row.kp (bi_is_row T) (let0 nox_def) (ja_cons (je_var 0) (ja_cons je_int ja_nil))))) (jw_or1 (jt_cmp (o_ne (room65 hr)) (je_ix (je_var 0) je_int) je_str (nomark _))))) (jss_one (js_ret je_bl)) jss_nil)
    (jss_cons (js_if (jt_w (jw_or (jt_not (jt_tru (je_call (ok_is_list T) (hr.mono (by decide)) T.g_is_list T.F_is_list.kp (bi_is_list T) (let0 nox_def) (ja_cons (je_ix (je_var 0) je_int) (ja_cons (je_glob T.c_MOST_TABLES) ja_nil))))) (jw_or1 (jt_not (jt_tru (je_call (ok_is_list T) (hr.mono (by decide)) T.g_is_list T.F_is_list.kp (bi_is_list T) (let0 nox_def) (ja_cons (je_ix (je_var 0) je_int) (ja_cons (je_glob T.c_MOST_FUNCTIONS) ja_nil)))))))) (jss_one (js_ret je_bl)) jss_nil)
    (jss_cons (js_if (jt_not (jt_tru (je_callB (c_all rfl) T.b_all PyProof.Rows.boot_all (ja_cons (je_lc rfl hN (ji_tup (je_ix (je_var 0) je_int)) (blkOk_by (own := [("size", 1)]) (by show blkC ["value", "size", "one"] (defScope s_is_shaped) _ [("size", 1)] = true; decide +kernel)) (fun _ _ _ _ _ => (jn_nm 1 hN)) (fun _ _ _ _ _ => jts_nil) (fun _ _ _ _ _ => (je_call (ok_is_integer T) (hr.mono (by decide)) T.g_is_integer T.F_is_integer.kp (bi_is_integer T) (let0 nox_def) (ja_cons (je_var 1) (ja_cons je_int (ja_cons (je_glob T.c_MOST_SIZE) ja_nil)))))) ja_nil)))) (jss_one (js_ret je_bl)) jss_nil)
    (jss_one (js_ret (je_and (je_callB (c_all rfl) T.b_all PyProof.Rows.boot_all (ja_cons (je_lc rfl hN (ji_tup (je_ix (je_var 0) je_int)) (blkOk_by (own := [("one", 2)]) (by show blkC ["value", "size", "one"] (defScope s_is_shaped) _ [("one", 2)] = true; decide +kernel)) (fun _ _ _ _ _ => (jn_nm 2 hN)) (fun _ _ _ _ _ => jts_nil) (fun _ _ _ _ _ => (je_call (ok_is_function T) (hr.mono (by decide)) T.g_is_function T.F_is_function.kp (bi_is_function T) (let0 nox_def) (ja_cons (je_var 2) (ja_cons (je_glob T.c_MOST_PARAMS) ja_nil))))) ja_nil)) (je_one (je_call (ok_is_function T) (hr.mono (by decide)) T.g_is_function T.F_is_function.kp (bi_is_function T) (let0 nox_def) (ja_cons (je_ix (je_var 0) je_int) (ja_cons je_int ja_nil))))))))))
theorem sc_Rules_value : FnScope ["self", "e", "kind", "one"] ["self", "e"] (defScope s_Rules_value) := ⟨rfl, rfl, rfl, by decide +kernel, rfl, by decide +kernel, by decide +kernel⟩
theorem bi_Rules_value (T : Tx w K mg Cl) : Binds K T.d_Rules_value ["self", "e"] [] := T.F_Rules_value.binds fun _ _ _ _ _ _ us hl => match us, hl with | [_, _], _ => rfl
theorem sc_Rules_called : FnScope ["self", "number", "args", "one"] ["self", "number", "args"] (defScope s_Rules_called) := ⟨rfl, rfl, rfl, by decide +kernel, rfl, by decide +kernel, by decide +kernel⟩
theorem bi_Rules_called (T : Tx w K mg Cl) : Binds K T.d_Rules_called ["self", "number", "args"] [] := T.F_Rules_called.binds fun _ _ _ _ _ _ us hl => match us, hl with | [_, _, _], _ => rfl
theorem okS_Rules_value (T : Tx w K mg Cl) : ∀ d : Nat, (FnOk P w K mg base CX0 (d + 1) T.a_Rules_value T.d_Rules_value ["self", "e"] (spM K Cl 2 (m_Rules_value d))) ∧ (FnOk P w K mg base CX0 (d + 1) T.a_Rules_called T.d_Rules_called ["self", "number", "args"] (spM K Cl 3 (m_Rules_called d)))
  | 0 => by
    refine ⟨?_, ?_⟩
    · rw [Nat.zero_add]
      exact fn_ok T.F_Rules_value sc_Rules_value rfl rfl fun cdv A outer s H E hr => jss_dead
    · rw [Nat.zero_add]
      exact fn_ok T.F_Rules_called sc_Rules_called rfl rfl fun cdv A outer s H E hr => jss_dead
  | d + 1 => by
    obtain ⟨ih0, ih1⟩ := okS_Rules_value T d
    refine ⟨?_, ?_⟩
    · refine fn_ok T.F_Rules_value sc_Rules_value rfl rfl fun cdv A outer s H E hr => ?_
      have hN := (sc_Rules_value).nd
      exact (jss_cons (js_set 2 hN (je_ix (je_var 1) je_int))
    (jss_cons (js_if (jt_cmp (o_in (room65 hr)) (je_var 2) (je_tup (ja_cons je_str (ja_cons je_str ja_nil))) rfl) (jss_one (js_ret je_bl)) jss_nil)
    (jss_cons (js_if (jt_cmp (o_eq (room65 hr)) (je_var 2) je_str (nomark _)) (jss_one (js_ret (je_cmp (o_in (room65 hr)) (je_ix (je_var 1) je_int) (je_fld T.k_Rules T.n_Rules__open (je_var 0)) rfl))) jss_nil)
    (jss_cons (js_if (jt_cmp (o_eq (room65 hr)) (je_var 2) je_str (nomark _)) (jss_one (js_ret (je_and (je_cmp o_lt (je_ix (je_var 1) je_int) (je_callB c_len T.b_len PySem.boot_len (ja_cons (je_fld T.k_Rules T.n_Rules__sizes (je_var 0)) ja_nil)) (nomark _)) (je_one (je_meth T.k_Rules T.m_Rules_value ih0 (hr.mono (by omega)) (bi_Rules_value T) (let0 (nox_Rules_value d)) (je_var 0) (ja_cons (je_ix (je_var 1) je_int) ja_nil)))))) jss_nil)
    (jss_cons (js_if (jt_cmp (o_eq (room65 hr)) (je_var 2) je_str (nomark _)) (jss_one (js_ret (je_meth T.k_Rules T.m_Rules_called ih1 (hr.mono (by omega)) (bi_Rules_called T) (let0 (nox_Rules_called d)) (je_var 0) (ja_cons (je_ix (je_var 1) je_int) (ja_cons (je_ix (je_var 1) je_int) ja_nil))))) jss_nil)
    (jss_cons (js_if (jt_cmp (o_eq (room65 hr)) (je_var 2) je_str (nomark _)) (jss_one (js_ret (je_and (je_meth T.k_Rules T.m_Rules_value ih0 (hr.mono (by omega)) (bi_Rules_value T) (let0 (nox_Rules_value d)) (je_var 0) (ja_cons (je_ix (je_var 1) je_int) ja_nil)) (je_one (je_meth T.k_Rules T.m_Rules_value ih0 (hr.mono (by omega)) (bi_Rules_value T) (let0 (nox_Rules_value d)) (je_var 0) (ja_cons (je_ix (je_var 1) je_int) ja_nil)))))) jss_nil)
    (jss_one (js_ret (je_callB (c_all rfl) T.b_all PyProof.Rows.boot_all (ja_cons (je_lc rfl hN (ji_tup (je_sl (je_var 1) (jo_some je_int) jo_none)) (blkOk_by (own := [("one", 3)]) (by show blkC ["self", "e", "kind", "one"] (defScope s_Rules_value) _ [("one", 3)] = true; decide +kernel)) (fun _ _ _ _ _ => (jn_nm 3 hN)) (fun _ _ _ _ _ => jts_nil) (fun _ _ _ _ _ => (je_meth T.k_Rules T.m_Rules_value ih0 (hr.mono (by omega)) (bi_Rules_value T) (let0 (nox_Rules_value d)) (je_var 0) (ja_cons (je_var 3) ja_nil)))) ja_nil))))))))))
    · refine fn_ok T.F_Rules_called sc_Rules_called rfl rfl fun cdv A outer s H E hr => ?_
      have hN := (sc_Rules_called).nd
      exact (jss_cons (js_if (jt_w (jw_or (jt_cmp o_ge (je_var 1) (je_callB c_len T.b_len PySem.boot_len (ja_cons (je_fld T.k_Rules T.n_Rules__params (je_var 0)) ja_nil)) (nomark _)) (jw_or1 (jt_cmp (o_ne (room65 hr)) (je_callB c_len T.b_len PySem.boot_len (ja_cons (je_var 2) ja_nil)) (je_ix (je_fld T.k_Rules T.n_Rules__params (je_var 0)) (je_var 1)) (nomark _))))) (jss_one (js_ret je_bl)) jss_nil)
    (jss_one (js_ret (je_callB (c_all rfl) T.b_all PyProof.Rows.boot_all (ja_cons (je_lc rfl hN (ji_tup (je_var 2)) (blkOk_by (own := [("one", 3)]) (by show blkC ["self", "number", "args", "one"] (defScope s_Rules_called) _ [("one", 3)] = true; decide +kernel)) (fun _ _ _ _ _ => (jn_nm 3 hN)) (fun _ _ _ _ _ => jts_nil) (fun _ _ _ _ _ => (je_meth T.k_Rules T.m_Rules_value ih0 (hr.mono (by omega)) (bi_Rules_value T) (let0 (nox_Rules_value d)) (je_var 0) (ja_cons (je_var 3) ja_nil)))) ja_nil)))))
theorem ok_Rules_value (T : Tx w K mg Cl) (d : Nat) : FnOk P w K mg base CX0 (d + 1) T.a_Rules_value T.d_Rules_value ["self", "e"] (spM K Cl 2 (m_Rules_value d)) := (okS_Rules_value T d).1
theorem ok_Rules_called (T : Tx w K mg Cl) (d : Nat) : FnOk P w K mg base CX0 (d + 1) T.a_Rules_called T.d_Rules_called ["self", "number", "args"] (spM K Cl 3 (m_Rules_called d)) := (okS_Rules_value T d).2
theorem sc_Rules_slot : FnScope ["self", "kind", "slot"] ["self", "kind", "slot"] (defScope s_Rules_slot) := ⟨rfl, rfl, rfl, by decide +kernel, rfl, by decide +kernel, by decide +kernel⟩
theorem bi_Rules_slot (T : Tx w K mg Cl) : Binds K T.d_Rules_slot ["self", "kind", "slot"] [] := T.F_Rules_slot.binds fun _ _ _ _ _ _ us hl => match us, hl with | [_, _, _], _ => rfl
theorem ok_Rules_slot (T : Tx w K mg Cl) : FnOk P w K mg base CX0 1 T.a_Rules_slot T.d_Rules_slot ["self", "kind", "slot"] (spM K Cl 3 m_Rules_slot) := by
  refine fn_ok T.F_Rules_slot sc_Rules_slot rfl rfl fun cdv A outer s H E hr => ?_
  have hN := (sc_Rules_slot).nd
  exact (jss_cons (js_if (jt_cmp (o_eq (room65 hr)) (je_var 1) je_str (nomark _)) (jss_one (js_ret (je_cmp (o_in (room65 hr)) (je_var 2) (je_fld T.k_Rules T.n_Rules__open (je_var 0)) rfl))) jss_nil)
    (jss_cons (js_if (jt_cmp (o_ne (room65 hr)) (je_var 2) (je_fld T.k_Rules T.n_Rules__next (je_var 0)) (nomark _)) (jss_one (js_ret je_bl)) jss_nil)
    (jss_cons (js_augF T.k_Rules T.n_Rules__next in_addI (je_var 0) je_int)
    (jss_cons (js_expr (je_lm PySem.F.slot_list_append PySem.F.type_list_append m_app (je_fld T.k_Rules T.n_Rules__open (je_var 0)) (ja_cons (je_var 2) ja_nil)))
    (jss_one (js_ret je_bl))))))
theorem sc_Rules_body : FnScope ["self", "body", "count", "statement"] ["self", "body"] (defScope s_Rules_body) := ⟨rfl, rfl, rfl, by decide +kernel, rfl, by decide +kernel, by decide +kernel⟩
theorem bi_Rules_body (T : Tx w K mg Cl) : Binds K T.d_Rules_body ["self", "body"] [] := T.F_Rules_body.binds fun _ _ _ _ _ _ us hl => match us, hl with | [_, _], _ => rfl
theorem sc_Rules_statement : FnScope ["self", "statement", "kind", "body"] ["self", "statement"] (defScope s_Rules_statement) := ⟨rfl, rfl, rfl, by decide +kernel, rfl, by decide +kernel, by decide +kernel⟩
theorem bi_Rules_statement (T : Tx w K mg Cl) : Binds K T.d_Rules_statement ["self", "statement"] [] := T.F_Rules_statement.binds fun _ _ _ _ _ _ us hl => match us, hl with | [_, _], _ => rfl
theorem okS_Rules_body (T : Tx w K mg Cl) : ∀ d : Nat, (FnOk P w K mg base CX0 (d + 42) T.a_Rules_body T.d_Rules_body ["self", "body"] (spM K Cl 2 (m_Rules_body d))) ∧ (FnOk P w K mg base CX0 (d + 42) T.a_Rules_statement T.d_Rules_statement ["self", "statement"] (spM K Cl 2 (m_Rules_statement d)))
  | 0 => by
    refine ⟨?_, ?_⟩
    · rw [Nat.zero_add]
      exact fn_ok T.F_Rules_body sc_Rules_body rfl rfl fun cdv A outer s H E hr => jss_dead
    · rw [Nat.zero_add]
      exact fn_ok T.F_Rules_statement sc_Rules_statement rfl rfl fun cdv A outer s H E hr => jss_dead
  | d + 1 => by
    obtain ⟨ih0, ih1⟩ := okS_Rules_body T d
    refine ⟨?_, ?_⟩
    · refine fn_ok T.F_Rules_body sc_Rules_body rfl rfl fun cdv A outer s H E hr => ?_
      have hN := (sc_Rules_body).nd
      exact (jss_cons (js_set 2 hN (je_callB c_len T.b_len PySem.boot_len (ja_cons (je_fld T.k_Rules T.n_Rules__open (je_var 0)) ja_nil)))
    (jss_cons (js_for PassesOwn.never rfl (ji_tup (je_var 1)) (jg_name 3 hN) (jss_one (js_if (jt_not (jt_tru (je_meth T.k_Rules T.m_Rules_statement ih1 (hr.mono (by omega)) (bi_Rules_statement T) (let0 (nox_Rules_statement d)) (je_var 0) (ja_cons (je_var 3) ja_nil)))) (jss_one (js_ret je_bl)) jss_nil)))
    (jss_cons (js_fld T.k_Rules T.n_Rules__open (je_var 0) (je_slS (je_fld T.k_Rules T.n_Rules__open (je_var 0)) jo_none (jo_some (je_var 2))))
    (jss_one (js_ret je_bl)))))
    · refine fn_ok T.F_Rules_statement sc_Rules_statement rfl rfl fun cdv A outer s H E hr => ?_
      have hN := (sc_Rules_statement).nd
      exact (jss_cons (js_set 2 hN (je_ix (je_var 1) je_int))
    (jss_cons (js_if (jt_cmp (o_in (room65 hr)) (je_var 2) (je_tup (ja_cons je_str (ja_cons je_str ja_nil))) rfl) (jss_one (js_ret (je_and (je_meth T.k_Rules T.m_Rules_value (ok_Rules_value T 40) (hr.mono (by omega)) (bi_Rules_value T) (let0 (nox_Rules_value 40)) (je_var 0) (ja_cons (je_ix (je_var 1) je_int) ja_nil)) (je_one (je_meth T.k_Rules T.m_Rules_slot (ok_Rules_slot T) (hr.mono (by omega)) (bi_Rules_slot T) (let0 nox_def) (je_var 0) (ja_cons (je_var 2) (ja_cons (je_ix (je_var 1) je_int) ja_nil))))))) jss_nil)
    (jss_cons (js_if (jt_cmp (o_in (room65 hr)) (je_var 2) (je_tup (ja_cons je_str (ja_cons je_str ja_nil))) rfl) (jss_one (js_ret (je_and (je_meth T.k_Rules T.m_Rules_value (ok_Rules_value T 40) (hr.mono (by omega)) (bi_Rules_value T) (let0 (nox_Rules_value 40)) (je_var 0) (ja_cons (je_ix (je_var 1) je_int) ja_nil)) (je_one (je_callB (c_all rfl) T.b_all PyProof.Rows.boot_all (ja_cons (je_lc rfl hN (ji_tup (je_sl (je_var 1) (jo_some je_int) jo_none)) (blkOk_by (own := [("body", 3)]) (by show blkC ["self", "statement", "kind", "body"] (defScope s_Rules_statement) _ [("body", 3)] = true; decide +kernel)) (fun _ _ _ _ _ => (jn_nm 3 hN)) (fun _ _ _ _ _ => jts_nil) (fun _ _ _ _ _ => (je_meth T.k_Rules T.m_Rules_body ih0 (hr.mono (by omega)) (bi_Rules_body T) (let0 (nox_Rules_body d)) (je_var 0) (ja_cons (je_var 3) ja_nil)))) ja_nil)))))) jss_nil)
    (jss_cons (js_if (jt_cmp (o_eq (room65 hr)) (je_var 2) je_str (nomark _)) (jss_one (js_ret (je_and (je_fld T.k_Rules T.n_Rules__may_give (je_var 0)) (je_one (je_meth T.k_Rules T.m_Rules_value (ok_Rules_value T 40) (hr.mono (by omega)) (bi_Rules_value T) (let0 (nox_Rules_value 40)) (je_var 0) (ja_cons (je_ix (je_var 1) je_int) ja_nil)))))) jss_nil)
    (jss_cons (js_if (jt_cmp (o_eq (room65 hr)) (je_var 2) je_str (nomark _)) (jss_one (js_ret (je_meth T.k_Rules T.m_Rules_value (ok_Rules_value T 40) (hr.mono (by omega)) (bi_Rules_value T) (let0 (nox_Rules_value 40)) (je_var 0) (ja_cons (je_ix (je_var 1) je_int) ja_nil)))) jss_nil)
    (jss_cons (js_if (jt_cmp (o_eq (room65 hr)) (je_var 2) je_str (nomark _)) (jss_one (js_ret (je_meth T.k_Rules T.m_Rules_called (ok_Rules_called T 40) (hr.mono (by omega)) (bi_Rules_called T) (let0 (nox_Rules_called 40)) (je_var 0) (ja_cons (je_ix (je_var 1) je_int) (ja_cons (je_ix (je_var 1) je_int) ja_nil))))) jss_nil)
    (jss_one (js_ret (je_and (je_cmp o_lt (je_ix (je_var 1) je_int) (je_callB c_len T.b_len PySem.boot_len (ja_cons (je_fld T.k_Rules T.n_Rules__sizes (je_var 0)) ja_nil)) (nomark _)) (je_and (je_meth T.k_Rules T.m_Rules_value (ok_Rules_value T 40) (hr.mono (by omega)) (bi_Rules_value T) (let0 (nox_Rules_value 40)) (je_var 0) (ja_cons (je_ix (je_var 1) je_int) ja_nil)) (je_one (je_meth T.k_Rules T.m_Rules_value (ok_Rules_value T 40) (hr.mono (by omega)) (bi_Rules_value T) (let0 (nox_Rules_value 40)) (je_var 0) (ja_cons (je_ix (je_var 1) je_int) ja_nil)))))))))))))
theorem ok_Rules_body (T : Tx w K mg Cl) (d : Nat) : FnOk P w K mg base CX0 (d + 42) T.a_Rules_body T.d_Rules_body ["self", "body"] (spM K Cl 2 (m_Rules_body d)) := (okS_Rules_body T d).1
theorem ok_Rules_statement (T : Tx w K mg Cl) (d : Nat) : FnOk P w K mg base CX0 (d + 42) T.a_Rules_statement T.d_Rules_statement ["self", "statement"] (spM K Cl 2 (m_Rules_statement d)) := (okS_Rules_body T d).2
theorem sc_Rules_hold : FnScope ["self"] ["self"] (defScope s_Rules_hold) := ⟨rfl, rfl, rfl, by decide +kernel, rfl, by decide +kernel, by decide +kernel⟩
theorem bi_Rules_hold (T : Tx w K mg Cl) : Binds K T.d_Rules_hold ["self"] [] := T.F_Rules_hold.binds fun _ _ _ _ _ _ us hl => match us, hl with | [_], _ => rfl
theorem ok_Rules_hold (T : Tx w K mg Cl) : FnOk P w K mg base CX0 83 T.a_Rules_hold T.d_Rules_hold ["self"] (spM K Cl 1 m_Rules_hold) := by
  refine fn_ok T.F_Rules_hold sc_Rules_hold rfl rfl fun cdv A outer s H E hr => ?_
  have hN := (sc_Rules_hold).nd
  exact (jss_one (js_ret (je_and (je_meth T.k_Rules T.m_Rules_body (ok_Rules_body T 40) (hr.mono (by decide)) (bi_Rules_body T) (let0 (nox_Rules_body 40)) (je_var 0) (ja_cons (je_ix (je_fld T.k_Rules T.n_Rules__function (je_var 0)) je_int) ja_nil)) (je_one (je_cmp (o_eq (room65 hr)) (je_fld T.k_Rules T.n_Rules__next (je_var 0)) (je_ix (je_fld T.k_Rules T.n_Rules__function (je_var 0)) je_int) (nomark _))))))
theorem sc_Rules_init : FnScope ["self", "sizes", "params", "function", "may_give"] ["self", "sizes", "params", "function", "may_give"] (defScope s_Rules_init) := ⟨rfl, rfl, rfl, by decide +kernel, rfl, by decide +kernel, by decide +kernel⟩
theorem bi_Rules_init (T : Tx w K mg Cl) : Binds K T.d_Rules_init ["self", "sizes", "params", "function", "may_give"] [] := T.F_Rules_init.binds fun _ _ _ _ _ _ us hl => match us, hl with | [_, _, _, _, _], _ => rfl
theorem ok_Rules_init (T : Tx w K mg Cl) : FnOk P w K mg base CX0 1 T.a_Rules_init T.d_Rules_init ["self", "sizes", "params", "function", "may_give"] (spM K Cl 5 m_Rules_init) := by
  refine fn_ok T.F_Rules_init sc_Rules_init rfl rfl fun cdv A outer s H E hr => ?_
  have hN := (sc_Rules_init).nd
  exact (jss_cons (js_fld T.k_Rules T.n_Rules__sizes (je_var 0) (je_var 1))
    (jss_cons (js_fld T.k_Rules T.n_Rules__params (je_var 0) (je_var 2))
    (jss_cons (js_fld T.k_Rules T.n_Rules__may_give (je_var 0) (je_var 4))
    (jss_cons (js_fld T.k_Rules T.n_Rules__next (je_var 0) (je_ix (je_var 3) je_int))
    (jss_cons (js_fld T.k_Rules T.n_Rules__open (je_var 0) (je_listRgS T.b_list T.b_range (je_ix (je_var 3) je_int)))
    (jss_one (js_fld T.k_Rules T.n_Rules__function (je_var 0) (je_var 3))))))))
theorem sc_is_checked : FnScope ["value", "_", "sizes", "functions", "main", "params", "function", "place"] ["value"] (defScope s_is_checked) := ⟨rfl, rfl, rfl, by decide +kernel, rfl, by decide +kernel, by decide +kernel⟩
theorem bi_is_checked (T : Tx w K mg Cl) : Binds K T.d_is_checked ["value"] [] := T.F_is_checked.binds fun _ _ _ _ _ _ us hl => match us, hl with | [_], _ => rfl
theorem ok_is_checked (T : Tx w K mg Cl) : FnOk P w K mg base CX0 84 T.a_is_checked T.d_is_checked ["value"] (spM K Cl 1 m_is_checked) := by
  refine fn_ok T.F_is_checked sc_is_checked rfl rfl fun cdv A outer s H E hr => ?_
  have hN := (sc_is_checked).nd
  exact (jss_cons (js_if (jt_not (jt_tru (je_call (ok_is_shaped T) (hr.mono (by decide)) T.g_is_shaped T.F_is_shaped.kp (bi_is_shaped T) (let0 nox_def) (ja_cons (je_var 0) ja_nil)))) (jss_one (js_ret je_bl)) jss_nil)
    (jss_cons (js_asg (je_var 0) (jg_tup rfl (jgs_cons (jg_name 1 hN) (jgs_cons (jg_name 2 hN) (jgs_cons (jg_name 3 hN) (jgs_cons (jg_name 4 hN) jgs_nil))))))
    (jss_cons (js_setLc 5 rfl hN (sw_true rfl rfl rfl (by decide +kernel)) (ji_tup (je_var 3)) (blkOk_by (own := [("function", 6)]) (by show blkC ["value", "_", "sizes", "functions", "main", "params", "function", "place"] (defScope s_is_checked) _ [("function", 6)] = true; decide +kernel)) (fun _ _ _ _ _ => (jn_nm 6 hN)) (fun _ _ _ _ _ => jts_nil) (fun _ _ _ _ _ => (je_ix (je_var 6) je_int)))
    (jss_cons (js_for PassesOwn.never rfl (ji_enum T.b_enumerate (ja_cons (je_var 3) ja_nil)) (jg_tup rfl (jgs_cons (jg_name 7 hN) (jgs_cons (jg_name 6 hN) jgs_nil))) (jss_one (js_if (jt_not (jt_tru (je_meth0 T.k_Rules T.m_Rules_hold (ok_Rules_hold T) (hr.mono (by decide)) (bi_Rules_hold T) (let0 nox_def) (je_make T.M_Rules (ok_Rules_init T) (hr.mono (by decide)) T.g_Rules (bi_Rules_init T) (let0 nox_def) (ja_cons (je_var 2) (ja_cons (je_sl (je_var 5) jo_none (jo_some (je_var 7))) (ja_cons (je_var 6) (ja_cons je_bl ja_nil)))))))) (jss_one (js_ret je_bl)) jss_nil)))
    (jss_one (js_ret (je_meth0 T.k_Rules T.m_Rules_hold (ok_Rules_hold T) (hr.mono (by decide)) (bi_Rules_hold T) (let0 nox_def) (je_make T.M_Rules (ok_Rules_init T) (hr.mono (by decide)) T.g_Rules (bi_Rules_init T) (let0 nox_def) (ja_cons (je_var 2) (ja_cons (je_var 5) (ja_cons (je_var 4) (ja_cons je_bl ja_nil))))))))))))
theorem sc_L_large : FnScope ["_law_bag_here", "_law_many", "_law_few", "_law_choice", "_law_k", "_law_value"] ["_law_bag_here"] (defScope s_L_large) := ⟨rfl, rfl, rfl, by decide +kernel, rfl, by decide +kernel, by decide +kernel⟩
theorem bi_L_large (T : Tx w K mg Cl) : Binds K T.d_L_large ["_law_bag_here"] [] := T.F_L_large.binds fun _ _ _ _ _ _ us hl => match us, hl with | [_], _ => rfl
theorem ok_L_large (T : Tx w K mg Cl) : FnOk P w K mg base CX0 2 T.a_L_large T.d_L_large ["_law_bag_here"] (spM K Cl 1 m_L_large) := by
  refine fn_ok T.F_L_large sc_L_large rfl rfl fun cdv A outer s H E hr => ?_
  have hN := (sc_L_large).nd
  exact (jss_cons (js_set 1 hN (je_op o_add je_int (je_call (ok_L_draw T) (hr.mono (by decide)) T.g_L_draw T.F_L_draw.kp (bi_L_draw T) (let0 nox_def) (ja_cons (je_var 0) (ja_cons je_int ja_nil)))))
    (jss_cons (js_set 2 hN (je_op o_add je_int (je_call (ok_L_draw T) (hr.mono (by decide)) T.g_L_draw T.F_L_draw.kp (bi_L_draw T) (let0 nox_def) (ja_cons (je_var 0) (ja_cons je_int ja_nil)))))
    (jss_cons (js_set 3 hN (je_call (ok_L_draw T) (hr.mono (by decide)) T.g_L_draw T.F_L_draw.kp (bi_L_draw T) (let0 nox_def) (ja_cons (je_var 0) (ja_cons je_int ja_nil))))
    (jss_cons (js_if (jt_cmp (o_eq (room65 hr)) (je_var 3) je_int (nomark _)) (jss_one (js_ret (je_tup (ja_cons je_str (ja_cons (je_callTy c_tuple T.b_tuple PyProof.Rows.boot_tuple (ja_cons (je_lc rfl hN (ji_rng1 T.b_range (ja_cons (je_var 1) ja_nil)) (blkOk_by (own := [("_law_k", 4)]) (by show blkC ["_law_bag_here", "_law_many", "_law_few", "_law_choice", "_law_k", "_law_value"] (defScope s_L_large) _ [("_law_k", 4)] = true; decide +kernel)) (fun _ _ _ _ _ => (jn_nm 4 hN)) (fun _ _ _ _ _ => jts_nil) (fun _ _ _ _ _ => (je_op o_add je_int (je_var 4)))) ja_nil)) (ja_cons (je_tup ja_nil) (ja_cons (je_tup (ja_cons je_int (ja_cons je_int (ja_cons (je_tup ja_nil) ja_nil)))) ja_nil))))))) jss_nil)
    (jss_cons (js_if (jt_cmp (o_eq (room65 hr)) (je_var 3) je_int (nomark _)) (jss_one (js_ret (je_tup (ja_cons je_str (ja_cons (je_tup ja_nil) (ja_cons (je_op o_mulR (je_tup (ja_cons (je_tup (ja_cons je_int (ja_cons je_int (ja_cons (je_tup ja_nil) ja_nil)))) ja_nil)) (je_var 1)) (ja_cons (je_tup (ja_cons je_int (ja_cons je_int (ja_cons (je_tup ja_nil) ja_nil)))) ja_nil))))))) jss_nil)
    (jss_cons (js_if (jt_cmp (o_eq (room65 hr)) (je_var 3) je_int (nomark _)) (jss_one (js_ret (je_tup (ja_cons je_str (ja_cons (je_tup ja_nil) (ja_cons (je_tup (ja_cons (je_tup (ja_cons (je_var 2) (ja_cons (je_var 2) (ja_cons (je_tup ja_nil) ja_nil)))) ja_nil)) (ja_cons (je_tup (ja_cons je_int (ja_cons je_int (ja_cons (je_tup (ja_cons (je_tup (ja_cons je_str (ja_cons je_int (ja_cons (je_op o_mulR (je_tup (ja_cons (je_tup (ja_cons je_str ja_nil)) ja_nil)) (je_var 2)) ja_nil)))) ja_nil)) ja_nil)))) ja_nil))))))) jss_nil)
    (jss_cons (js_set 5 hN (je_tup (ja_cons je_str ja_nil)))
    (jss_cons (js_for PassesOwn.never rfl (ji_rng1 T.b_range (ja_cons (je_op o_add je_int (je_call (ok_L_draw T) (hr.mono (by decide)) T.g_L_draw T.F_L_draw.kp (bi_L_draw T) (let0 nox_def) (ja_cons (je_var 0) (ja_cons je_int ja_nil)))) ja_nil)) (jg_name 4 hN) (jss_one (js_set 5 hN (je_ix (je_lst (ja_cons (je_tup (ja_cons je_str (ja_cons (je_var 5) ja_nil))) (ja_cons (je_tup (ja_cons je_str (ja_cons je_str (ja_cons (je_var 5) (ja_cons (je_tup (ja_cons je_str ja_nil)) ja_nil))))) (ja_cons (je_tup (ja_cons je_str (ja_cons (je_tup (ja_cons je_str ja_nil)) (ja_cons (je_var 5) ja_nil)))) (ja_cons (je_tup (ja_cons je_str (ja_cons (je_var 5) ja_nil))) ja_nil))))) (je_call (ok_L_draw T) (hr.mono (by decide)) T.g_L_draw T.F_L_draw.kp (bi_L_draw T) (let0 nox_def) (ja_cons (je_var 0) (ja_cons je_int ja_nil)))))))
    (jss_one (js_ret (je_tup (ja_cons je_str (ja_cons (je_tup ja_nil) (ja_cons (je_tup ja_nil) (ja_cons (je_tup (ja_cons je_int (ja_cons je_int (ja_cons (je_tup (ja_cons (je_tup (ja_cons je_str (ja_cons (je_var 5) ja_nil))) ja_nil)) ja_nil)))) ja_nil)))))))))))))))
theorem sc_L_spoilt : FnScope ["_law_bag_here", "_law_value", "_law_odd_here", "_law_at", "_law_choice"] ["_law_bag_here", "_law_value", "_law_odd_here"] (defScope s_L_spoilt) := ⟨rfl, rfl, rfl, by decide +kernel, rfl, by decide +kernel, by decide +kernel⟩
theorem bi_L_spoilt (T : Tx w K mg Cl) : Binds K T.d_L_spoilt ["_law_bag_here", "_law_value", "_law_odd_here"] [] := T.F_L_spoilt.binds fun _ _ _ _ _ _ us hl => match us, hl with | [_, _, _], _ => rfl
theorem ok_L_spoilt (T : Tx w K mg Cl) : ∀ d : Nat, FnOk P w K mg base CX0 (d + 2) T.a_L_spoilt T.d_L_spoilt ["_law_bag_here", "_law_value", "_law_odd_here"] (spM K Cl 3 (m_L_spoilt d))
  | 0 => by
    rw [Nat.zero_add]
    exact fn_ok T.F_L_spoilt sc_L_spoilt rfl rfl fun cdv A outer s H E hr => jss_dead
  | d + 1 => by
    have ih := ok_L_spoilt T d
    refine fn_ok T.F_L_spoilt sc_L_spoilt rfl rfl fun cdv A outer s H E hr => ?_
    have hN := (sc_L_spoilt).nd
    exact (jss_cons (js_if (jt_w (jw_or (jt_not (jt_tru (je_isi T.b_isinstance T.b_tuple PyProof.Rows.boot_tuple (je_var 1)))) (jw_or (jt_cmp (o_eq (room65 hr)) (je_callB c_len T.b_len PySem.boot_len (ja_cons (je_var 1) ja_nil)) je_int (nomark _)) (jw_or1 (jt_cmp (o_eq (room65 hr)) (je_call (ok_L_draw T) (hr.mono (by omega)) T.g_L_draw T.F_L_draw.kp (bi_L_draw T) (let0 nox_def) (ja_cons (je_var 0) (ja_cons je_int ja_nil))) je_int (nomark _)))))) (jss_one (js_ret (je_var 2))) jss_nil)
    (jss_cons (js_set 3 hN (je_call (ok_L_draw T) (hr.mono (by omega)) T.g_L_draw T.F_L_draw.kp (bi_L_draw T) (let0 nox_def) (ja_cons (je_var 0) (ja_cons (je_callB c_len T.b_len PySem.boot_len (ja_cons (je_var 1) ja_nil)) ja_nil))))
    (jss_cons (js_set 4 hN (je_call (ok_L_draw T) (hr.mono (by omega)) T.g_L_draw T.F_L_draw.kp (bi_L_draw T) (let0 nox_def) (ja_cons (je_var 0) (ja_cons je_int ja_nil))))
    (jss_cons (js_if (jt_cmp (o_eq (room65 hr)) (je_var 4) je_int (nomark _)) (jss_one (js_ret (je_op o_add (je_sl (je_var 1) jo_none (jo_some (je_var 3))) (je_sl (je_var 1) (jo_some (je_op o_add (je_var 3) je_int)) jo_none)))) jss_nil)
    (jss_cons (js_if (jt_cmp (o_eq (room65 hr)) (je_var 4) je_int (nomark _)) (jss_one (js_ret (je_op o_add (je_op o_add (je_sl (je_var 1) jo_none (jo_some (je_var 3))) (je_tup (ja_cons (je_var 2) ja_nil))) (je_sl (je_var 1) (jo_some (je_var 3)) jo_none)))) jss_nil)
    (jss_cons (js_if (jt_cmp (o_eq (room65 hr)) (je_var 4) je_int (nomark _)) (jss_one (js_ret (je_op o_add (je_op o_add (je_sl (je_var 1) jo_none (jo_some (je_var 3))) (je_sl (je_var 1) (jo_some (je_var 3)) (jo_some (je_op o_add (je_var 3) je_int)))) (je_sl (je_var 1) (jo_some (je_var 3)) jo_none)))) jss_nil)
    (jss_cons (js_if (jt_cmp (o_eq (room65 hr)) (je_var 4) je_int (nomark _)) (jss_one (js_ret (je_op o_add (je_op o_add (je_op o_add (je_sl (je_var 1) jo_none (jo_some (je_var 3))) (je_sl (je_var 1) (jo_some (je_op o_add (je_var 3) je_int)) (jo_some (je_op o_add (je_var 3) je_int)))) (je_sl (je_var 1) (jo_some (je_var 3)) (jo_some (je_op o_add (je_var 3) je_int)))) (je_sl (je_var 1) (jo_some (je_op o_add (je_var 3) je_int)) jo_none)))) jss_nil)
    (jss_cons (js_if (jt_cmp (o_eq (room65 hr)) (je_var 4) je_int (nomark _)) (jss_one (js_ret (je_callTy c_list T.b_list PyProof.Rows.boot_list (ja_cons (je_var 1) ja_nil)))) jss_nil)
    (jss_one (js_ret (je_op o_add (je_op o_add (je_sl (je_var 1) jo_none (jo_some (je_var 3))) (je_tup (ja_cons (je_call ih (hr.mono (by omega)) T.g_L_spoilt T.F_L_spoilt.kp (bi_L_spoilt T) (let0 (nox_L_spoilt d)) (ja_cons (je_var 0) (ja_cons (je_ix (je_var 1) (je_var 3)) (ja_cons (je_var 2) ja_nil)))) ja_nil))) (je_sl (je_var 1) (jo_some (je_op o_add (je_var 3) je_int)) jo_none))))))))))))
theorem sc_L_odd : FnScope ["_law_bag_here", "_law_odd_here"] ["_law_bag_here"] (defScope s_L_odd) := ⟨rfl, rfl, rfl, by decide +kernel, rfl, by decide +kernel, by decide +kernel⟩
theorem bi_L_odd (T : Tx w K mg Cl) : Binds K T.d_L_odd ["_law_bag_here"] [] := T.F_L_odd.binds fun _ _ _ _ _ _ us hl => match us, hl with | [_], _ => rfl
theorem ok_L_odd (T : Tx w K mg Cl) : FnOk P w K mg base CX0 2 T.a_L_odd T.d_L_odd ["_law_bag_here"] (spM K Cl 1 m_L_odd) := by
  refine fn_ok T.F_L_odd sc_L_odd rfl rfl fun cdv A outer s H E hr => ?_
  have hN := (sc_L_odd).nd
  exact (jss_cons (js_set 1 hN (je_lst (ja_cons je_int (ja_cons je_int (ja_cons je_int (ja_cons je_int (ja_cons je_int (ja_cons je_int (ja_cons je_int (ja_cons je_int (ja_cons je_int (ja_cons je_int (ja_cons je_int (ja_cons (je_un u_neg je_int) (ja_cons je_bl (ja_cons je_bl (ja_cons je_non (ja_cons je_str (ja_cons je_str (ja_cons je_str (ja_cons je_str (ja_cons je_str (ja_cons (je_tup ja_nil) (ja_cons (je_lst ja_nil) (ja_cons (je_tup (ja_cons je_str ja_nil)) (ja_cons (je_tup (ja_cons je_str (ja_cons je_int ja_nil))) ja_nil))))))))))))))))))))))))))
    (jss_cons (js_set 1 hN (je_op o_add (je_var 1) (je_lst (ja_cons (je_tup (ja_cons je_str (ja_cons je_int ja_nil))) (ja_cons (je_tup (ja_cons je_str (ja_cons je_int ja_nil))) (ja_cons (je_tup (ja_cons je_str (ja_cons je_int ja_nil))) (ja_cons (je_tup (ja_cons je_str (ja_cons je_bl ja_nil))) (ja_cons (je_tup (ja_cons je_str (ja_cons je_int ja_nil))) (ja_cons (je_tup (ja_cons je_str (ja_cons je_int ja_nil))) (ja_cons (je_tup (ja_cons je_str (ja_cons je_int (ja_cons (je_tup (ja_cons je_str ja_nil)) ja_nil)))) (ja_cons (je_tup (ja_cons je_str (ja_cons je_int (ja_cons (je_tup (ja_cons je_str ja_nil)) ja_nil)))) ja_nil)))))))))))
    (jss_cons (js_set 1 hN (je_op o_add (je_var 1) (je_lst (ja_cons (je_tup (ja_cons je_str (ja_cons je_int (ja_cons (je_tup ja_nil) ja_nil)))) (ja_cons (je_tup (ja_cons je_str (ja_cons je_int (ja_cons (je_tup (ja_cons (je_tup (ja_cons je_str ja_nil)) ja_nil)) ja_nil)))) (ja_cons (je_tup (ja_cons je_str (ja_cons (je_tup (ja_cons je_str ja_nil)) ja_nil))) (ja_cons (je_tup (ja_cons je_str (ja_cons je_str (ja_cons (je_tup (ja_cons je_str ja_nil)) (ja_cons (je_tup (ja_cons je_str ja_nil)) ja_nil))))) (ja_cons (je_tup (ja_cons je_int (ja_cons je_int (ja_cons (je_tup ja_nil) ja_nil)))) (ja_cons (je_tup (ja_cons je_int (ja_cons je_int (ja_cons (je_tup ja_nil) ja_nil)))) ja_nil)))))))))
    (jss_cons (js_set 1 hN (je_op o_add (je_var 1) (je_lst (ja_cons (je_tup (ja_cons je_str (ja_cons je_int (ja_cons (je_tup (ja_cons je_str ja_nil)) ja_nil)))) (ja_cons (je_tup (ja_cons je_str (ja_cons je_int (ja_cons (je_tup (ja_cons je_str ja_nil)) ja_nil)))) (ja_cons (je_tup (ja_cons je_str (ja_cons je_int (ja_cons (je_tup (ja_cons je_str ja_nil)) ja_nil)))) (ja_cons (je_tup (ja_cons je_str (ja_cons je_int (ja_cons (je_tup (ja_cons je_str ja_nil)) ja_nil)))) (ja_cons (je_tup (ja_cons je_str (ja_cons (je_tup (ja_cons je_str ja_nil)) ja_nil))) (ja_cons (je_tup (ja_cons (je_tup (ja_cons je_str (ja_cons (je_tup (ja_cons je_str ja_nil)) ja_nil))) ja_nil)) ja_nil)))))))))
    (jss_one (js_ret (je_ix (je_var 1) (je_call (ok_L_draw T) (hr.mono (by decide)) T.g_L_draw T.F_L_draw.kp (bi_L_draw T) (let0 nox_def) (ja_cons (je_var 0) (ja_cons (je_callB c_len T.b_len PySem.boot_len (ja_cons (je_var 1) ja_nil)) ja_nil))))))))))
theorem sc_L_is_int : FnScope ["_law_value", "_law_least", "_law_most"] ["_law_value", "_law_least", "_law_most"] (defScope s_L_is_int) := ⟨rfl, rfl, rfl, by decide +kernel, rfl, by decide +kernel, by decide +kernel⟩
theorem bi_L_is_int (T : Tx w K mg Cl) : Binds K T.d_L_is_int ["_law_value", "_law_least", "_law_most"] [] := T.F_L_is_int.binds fun _ _ _ _ _ _ us hl => match us, hl with | [_, _, _], _ => rfl
theorem ok_L_is_int (T : Tx w K mg Cl) : FnOk P w K mg base CX0 1 T.a_L_is_int T.d_L_is_int ["_law_value", "_law_least", "_law_most"] (spM K Cl 3 m_L_is_int) := by
  refine fn_ok T.F_L_is_int sc_L_is_int rfl rfl fun cdv A outer s H E hr => ?_
  have hN := (sc_L_is_int).nd
  exact (jss_one (js_ret (je_and (je_isi T.b_isinstance T.b_int PyProof.Rows.boot_int (je_var 0)) (je_and (je_not (je_isi T.b_isinstance T.b_bool PyProof.Rows.boot_bool (je_var 0))) (je_and (je_cmp o_le (je_var 1) (je_var 0) (nomark _)) (je_one (je_cmp o_le (je_var 0) (je_var 2) (nomark _))))))))
theorem sc_L_shape : FnScope ["_law_kind", "_law_statement", "_law_rows", "_law_one_here", "_law_shape_here"] ["_law_kind", "_law_statement"] (defScope s_L_shape) := ⟨rfl, rfl, rfl, by decide +kernel, rfl, by decide +kernel, by decide +kernel⟩
theorem bi_L_shape (T : Tx w K mg Cl) : Binds K T.d_L_shape ["_law_kind", "_law_statement"] [] := T.F_L_shape.binds fun _ _ _ _ _ _ us hl => match us, hl with | [_, _], _ => rfl
theorem ok_L_shape (T : Tx w K mg Cl) : FnOk P w K mg base CX0 1 T.a_L_shape T.d_L_shape ["_law_kind", "_law_statement"] (spM K Cl 2 m_L_shape) := by
  refine fn_ok T.F_L_shape sc_L_shape rfl rfl fun cdv A outer s H E hr => ?_
  have hN := (sc_L_shape).nd
  exact (jss_cons (js_set 2 hN (je_lst (ja_cons (je_tup (ja_cons je_str (ja_cons je_str ja_nil))) (ja_cons (je_tup (ja_cons je_str (ja_cons je_str ja_nil))) (ja_cons (je_tup (ja_cons je_str (ja_cons je_str ja_nil))) (ja_cons (je_tup (ja_cons je_str (ja_cons je_str ja_nil))) (ja_cons (je_tup (ja_cons je_str (ja_cons je_str ja_nil))) (ja_cons (je_tup (ja_cons je_str (ja_cons je_str ja_nil))) (ja_cons (je_tup (ja_cons je_str (ja_cons je_str ja_nil))) (ja_cons (je_tup (ja_cons je_str (ja_cons je_str ja_nil))) ja_nil))))))))))
    (jss_cons (js_if (jt_not (jt_tru (je_var 1))) (jss_cons (js_set 2 hN (je_lst (ja_cons (je_tup (ja_cons je_str (ja_cons je_str ja_nil))) (ja_cons (je_tup (ja_cons je_str (ja_cons je_str ja_nil))) (ja_cons (je_tup (ja_cons je_str (ja_cons je_str ja_nil))) (ja_cons (je_tup (ja_cons je_str (ja_cons je_str ja_nil))) (ja_cons (je_tup (ja_cons je_str (ja_cons je_str ja_nil))) (ja_cons (je_tup (ja_cons je_str (ja_cons je_str ja_nil))) (ja_cons (je_tup (ja_cons je_str (ja_cons je_str ja_nil))) ja_nil)))))))))
    (jss_one (js_set 2 hN (je_op o_add (je_var 2) (je_lst (ja_cons (je_tup (ja_cons je_str (ja_cons je_str ja_nil))) (ja_cons (je_tup (ja_cons je_str (ja_cons je_str ja_nil))) (ja_cons (je_tup (ja_cons je_str (ja_cons je_str ja_nil))) ja_nil)))))))) jss_nil)
    (jss_cons (js_for PassesOwn.never rfl (ji_lst (je_var 2)) (jg_tup rfl (jgs_cons (jg_name 3 hN) (jgs_cons (jg_name 4 hN) jgs_nil))) (jss_one (js_if (jt_cmp (o_eq (room65 hr)) (je_var 3) (je_var 0) (nomark _)) (jss_one (js_ret (je_var 4))) jss_nil)))
    (jss_one (js_ret je_non)))))
theorem sc_L_is_part : FnScope ["_law_form", "_law_value", "_law_depth", "_law_one_here"] ["_law_form", "_law_value", "_law_depth"] (defScope s_L_is_part) := ⟨rfl, rfl, rfl, by decide +kernel, rfl, by decide +kernel, by decide +kernel⟩
theorem bi_L_is_part (T : Tx w K mg Cl) : Binds K T.d_L_is_part ["_law_form", "_law_value", "_law_depth"] [] := T.F_L_is_part.binds fun _ _ _ _ _ _ us hl => match us, hl with | [_, _, _], _ => rfl
theorem sc_L_is_node : FnScope ["_law_value", "_law_depth", "_law_statement", "_law_shape_here", "_law_k"] ["_law_value", "_law_depth", "_law_statement"] (defScope s_L_is_node) := ⟨rfl, rfl, rfl, by decide +kernel, rfl, by decide +kernel, by decide +kernel⟩
theorem bi_L_is_node (T : Tx w K mg Cl) : Binds K T.d_L_is_node ["_law_value", "_law_depth", "_law_statement"] [] := T.F_L_is_node.binds fun _ _ _ _ _ _ us hl => match us, hl with | [_, _, _], _ => rfl
theorem okS_L_is_part (T : Tx w K mg Cl) : ∀ d : Nat, (FnOk P w K mg base CX0 (d + 2) T.a_L_is_part T.d_L_is_part ["_law_form", "_law_value", "_law_depth"] (spM K Cl 3 (m_L_is_part d))) ∧ (FnOk P w K mg base CX0 (d + 2) T.a_L_is_node T.d_L_is_node ["_law_value", "_law_depth", "_law_statement"] (spM K Cl 3 (m_L_is_node d)))
  | 0 => by
    refine ⟨?_, ?_⟩
    · rw [Nat.zero_add]
      exact fn_ok T.F_L_is_part sc_L_is_part rfl rfl fun cdv A outer s H E hr => jss_dead
    · rw [Nat.zero_add]
      exact fn_ok T.F_L_is_node sc_L_is_node rfl rfl fun cdv A outer s H E hr => jss_dead
  | d + 1 => by
    obtain ⟨ih0, ih1⟩ := okS_L_is_part T d
    refine ⟨?_, ?_⟩
    · refine fn_ok T.F_L_is_part sc_L_is_part rfl rfl fun cdv A outer s H E hr => ?_
      have hN := (sc_L_is_part).nd
      exact (jss_cons (js_if (jt_cmp (o_eq (room65 hr)) (je_var 0) je_str (nomark _)) (jss_one (js_ret (je_call ih1 (hr.mono (by omega)) T.g_L_is_node T.F_L_is_node.kp (bi_L_is_node T) (let0 (nox_L_is_node d)) (ja_cons (je_var 1) (ja_cons (je_var 2) (ja_cons je_bl ja_nil)))))) jss_nil)
    (jss_cons (js_if (jt_w (jw_or (jt_cmp (o_eq (room65 hr)) (je_var 0) je_str (nomark _)) (jw_or1 (jt_cmp (o_eq (room65 hr)) (je_var 0) je_str (nomark _))))) (jss_cons (js_if (jt_w (jw_or (jt_not (jt_tru (je_isi T.b_isinstance T.b_tuple PyProof.Rows.boot_tuple (je_var 1)))) (jw_or1 (jt_w (jw_and (jt_cmp (o_eq (room65 hr)) (je_var 0) je_str (nomark _)) (jw_and1 (jt_cmp o_gt (je_callB c_len T.b_len PySem.boot_len (ja_cons (je_var 1) ja_nil)) je_int (nomark _)))))))) (jss_one (js_ret je_bl)) jss_nil)
    (jss_one (js_ret (je_cmp (o_notIn (room65 hr)) je_bl (je_lc rfl hN (ji_tup (je_var 1)) (blkOk_by (own := [("_law_one_here", 3)]) (by show blkC ["_law_form", "_law_value", "_law_depth", "_law_one_here"] (defScope s_L_is_part) _ [("_law_one_here", 3)] = true; decide +kernel)) (fun _ _ _ _ _ => (jn_nm 3 hN)) (fun _ _ _ _ _ => jts_nil) (fun _ _ _ _ _ => (je_call ih1 (hr.mono (by omega)) T.g_L_is_node T.F_L_is_node.kp (bi_L_is_node T) (let0 (nox_L_is_node d)) (ja_cons (je_var 3) (ja_cons (je_var 2) (ja_cons (je_cmp (o_eq (room65 hr)) (je_var 0) je_str (nomark _)) ja_nil)))))) rfl)))) jss_nil)
    (jss_cons (js_if (jt_cmp (o_eq (room65 hr)) (je_var 0) je_str (nomark _)) (jss_one (js_ret (je_call (ok_L_is_int T) (hr.mono (by omega)) T.g_L_is_int T.F_L_is_int.kp (bi_L_is_int T) (let0 nox_def) (ja_cons (je_var 1) (ja_cons je_int (ja_cons (je_op o_pow je_int je_int) ja_nil)))))) jss_nil)
    (jss_cons (js_if (jt_cmp (o_eq (room65 hr)) (je_var 0) je_str (nomark _)) (jss_one (js_ret (je_call (ok_L_is_int T) (hr.mono (by omega)) T.g_L_is_int T.F_L_is_int.kp (bi_L_is_int T) (let0 nox_def) (ja_cons (je_var 1) (ja_cons je_int (ja_cons je_int ja_nil)))))) jss_nil)
    (jss_one (js_ret (je_and (je_isi T.b_isinstance T.b_str PyProof.Rows.boot_str (je_var 1)) (je_one (je_cmp (o_in (room65 hr)) (je_var 1) (je_lst (ja_cons je_str (ja_cons je_str (ja_cons je_str (ja_cons je_str (ja_cons je_str (ja_cons je_str (ja_cons je_str (ja_cons je_str (ja_cons je_str (ja_cons je_str (ja_cons je_str ja_nil)))))))))))) rfl)))))))))
    · refine fn_ok T.F_L_is_node sc_L_is_node rfl rfl fun cdv A outer s H E hr => ?_
      have hN := (sc_L_is_node).nd
      exact (jss_cons (js_if (jt_w (jw_or (jt_cmp o_gt (je_var 1) je_int (nomark _)) (jw_or (jt_not (jt_tru (je_isi T.b_isinstance T.b_tuple PyProof.Rows.boot_tuple (je_var 0)))) (jw_or (jt_cmp (o_eq (room65 hr)) (je_callB c_len T.b_len PySem.boot_len (ja_cons (je_var 0) ja_nil)) je_int (nomark _)) (jw_or1 (jt_not (jt_tru (je_isi T.b_isinstance T.b_str PyProof.Rows.boot_str (je_ix (je_var 0) je_int))))))))) (jss_one (js_ret je_bl)) jss_nil)
    (jss_cons (js_set 3 hN (je_call (ok_L_shape T) (hr.mono (by omega)) T.g_L_shape T.F_L_shape.kp (bi_L_shape T) (let0 nox_def) (ja_cons (je_ix (je_var 0) je_int) (ja_cons (je_var 2) ja_nil))))
    (jss_cons (js_if (jt_w (jw_or (jt_cmp o_isN (je_var 3) je_non (nomark _)) (jw_or1 (jt_cmp (o_ne (room65 hr)) (je_callB c_len T.b_len PySem.boot_len (ja_cons (je_var 0) ja_nil)) (je_op o_add (je_callB c_len T.b_len PySem.boot_len (ja_cons (je_var 3) ja_nil)) je_int) (nomark _))))) (jss_one (js_ret je_bl)) jss_nil)
    (jss_one (js_ret (je_cmp (o_notIn (room65 hr)) je_bl (je_lc rfl hN (ji_rng1 T.b_range (ja_cons (je_callB c_len T.b_len PySem.boot_len (ja_cons (je_var 3) ja_nil)) ja_nil)) (blkOk_by (own := [("_law_k", 4)]) (by show blkC ["_law_value", "_law_depth", "_law_statement", "_law_shape_here", "_law_k"] (defScope s_L_is_node) _ [("_law_k", 4)] = true; decide +kernel)) (fun _ _ _ _ _ => (jn_nm 4 hN)) (fun _ _ _ _ _ => jts_nil) (fun _ _ _ _ _ => (je_call ih0 (hr.mono (by omega)) T.g_L_is_part T.F_L_is_part.kp (bi_L_is_part T) (let0 (nox_L_is_part d)) (ja_cons (je_ix (je_var 3) (je_var 4)) (ja_cons (je_ix (je_var 0) (je_op o_add (je_var 4) je_int)) (ja_cons (je_op o_add (je_var 1) je_int) ja_nil)))))) rfl))))))
theorem ok_L_is_part (T : Tx w K mg Cl) (d : Nat) : FnOk P w K mg base CX0 (d + 2) T.a_L_is_part T.d_L_is_part ["_law_form", "_law_value", "_law_depth"] (spM K Cl 3 (m_L_is_part d)) := (okS_L_is_part T d).1
theorem ok_L_is_node (T : Tx w K mg Cl) (d : Nat) : FnOk P w K mg base CX0 (d + 2) T.a_L_is_node T.d_L_is_node ["_law_value", "_law_depth", "_law_statement"] (spM K Cl 3 (m_L_is_node d)) := (okS_L_is_part T d).2
theorem sc_L_called : FnScope ["_law_rule", "_law_e", "_law_one_here"] ["_law_rule", "_law_e"] (defScope s_L_called) := ⟨rfl, rfl, rfl, by decide +kernel, rfl, by decide +kernel, by decide +kernel⟩
theorem bi_L_called (T : Tx w K mg Cl) : Binds K T.d_L_called ["_law_rule", "_law_e"] [] := T.F_L_called.binds fun _ _ _ _ _ _ us hl => match us, hl with | [_, _], _ => rfl
theorem sc_L_e_holds : FnScope ["_law_rule", "_law_e", "_law_one_here"] ["_law_rule", "_law_e"] (defScope s_L_e_holds) := ⟨rfl, rfl, rfl, by decide +kernel, rfl, by decide +kernel, by decide +kernel⟩
theorem bi_L_e_holds (T : Tx w K mg Cl) : Binds K T.d_L_e_holds ["_law_rule", "_law_e"] [] := T.F_L_e_holds.binds fun _ _ _ _ _ _ us hl => match us, hl with | [_, _], _ => rfl
theorem okS_L_called (T : Tx w K mg Cl) : ∀ d : Nat, (FnOk P w K mg base CX0 (d + 1) T.a_L_called T.d_L_called ["_law_rule", "_law_e"] (spM K Cl 2 (m_L_called d))) ∧ (FnOk P w K mg base CX0 (d + 1) T.a_L_e_holds T.d_L_e_holds ["_law_rule", "_law_e"] (spM K Cl 2 (m_L_e_holds d)))
  | 0 => by
    refine ⟨?_, ?_⟩
    · rw [Nat.zero_add]
      exact fn_ok T.F_L_called sc_L_called rfl rfl fun cdv A outer s H E hr => jss_dead
    · rw [Nat.zero_add]
      exact fn_ok T.F_L_e_holds sc_L_e_holds rfl rfl fun cdv A outer s H E hr => jss_dead
  | d + 1 => by
    obtain ⟨ih0, ih1⟩ := okS_L_called T d
    refine ⟨?_, ?_⟩
    · refine fn_ok T.F_L_called sc_L_called rfl rfl fun cdv A outer s H E hr => ?_
      have hN := (sc_L_called).nd
      exact (jss_cons (js_if (jt_w (jw_or (jt_cmp o_ge (je_ix (je_var 1) je_int) (je_callB c_len T.b_len PySem.boot_len (ja_cons (je_dget (room1 hr) (je_var 0) je_str) ja_nil)) (nomark _)) (jw_or1 (jt_cmp (o_ne (room65 hr)) (je_ix (je_dget (room1 hr) (je_var 0) je_str) (je_ix (je_var 1) je_int)) (je_callB c_len T.b_len PySem.boot_len (ja_cons (je_ix (je_var 1) je_int) ja_nil)) (nomark _))))) (jss_one (js_ret je_bl)) jss_nil)
    (jss_one (js_ret (je_cmp (o_notIn (room65 hr)) je_bl (je_lc rfl hN (ji_tup (je_ix (je_var 1) je_int)) (blkOk_by (own := [("_law_one_here", 2)]) (by show blkC ["_law_rule", "_law_e", "_law_one_here"] (defScope s_L_called) _ [("_law_one_here", 2)] = true; decide +kernel)) (fun _ _ _ _ _ => (jn_nm 2 hN)) (fun _ _ _ _ _ => jts_nil) (fun _ _ _ _ _ => (je_call ih1 (hr.mono (by omega)) T.g_L_e_holds T.F_L_e_holds.kp (bi_L_e_holds T) (let0 (nox_L_e_holds d)) (ja_cons (je_var 0) (ja_cons (je_var 2) ja_nil))))) rfl))))
    · refine fn_ok T.F_L_e_holds sc_L_e_holds rfl rfl fun cdv A outer s H E hr => ?_
      have hN := (sc_L_e_holds).nd
      exact (jss_cons (js_if (jt_cmp (o_eq (room65 hr)) (je_ix (je_var 1) je_int) je_str (nomark _)) (jss_one (js_ret (je_cmp (o_in (room65 hr)) (je_ix (je_var 1) je_int) (je_dget (room1 hr) (je_var 0) je_str) rfl))) jss_nil)
    (jss_cons (js_if (jt_cmp (o_eq (room65 hr)) (je_ix (je_var 1) je_int) je_str (nomark _)) (jss_one (js_ret (je_call ih0 (hr.mono (by omega)) T.g_L_called T.F_L_called.kp (bi_L_called T) (let0 (nox_L_called d)) (ja_cons (je_var 0) (ja_cons (je_var 1) ja_nil))))) jss_nil)
    (jss_cons (js_if (jt_w (jw_and (jt_cmp (o_eq (room65 hr)) (je_ix (je_var 1) je_int) je_str (nomark _)) (jw_and1 (jt_cmp o_ge (je_ix (je_var 1) je_int) (je_callB c_len T.b_len PySem.boot_len (ja_cons (je_dget (room1 hr) (je_var 0) je_str) ja_nil)) (nomark _))))) (jss_one (js_ret je_bl)) jss_nil)
    (jss_one (js_ret (je_cmp (o_notIn (room65 hr)) je_bl (je_lc rfl hN (ji_tup (je_sl (je_var 1) (jo_some je_int) jo_none)) (blkOk_by (own := [("_law_one_here", 2)]) (by show blkC ["_law_rule", "_law_e", "_law_one_here"] (defScope s_L_e_holds) _ [("_law_one_here", 2)] = true; decide +kernel)) (fun _ _ _ _ _ => (jn_nm 2 hN)) (fun _ _ _ _ _ => (jts_one (jt_tru (je_isi T.b_isinstance T.b_tuple PyProof.Rows.boot_tuple (je_var 2))))) (fun _ _ _ _ _ => (je_call ih1 (hr.mono (by omega)) T.g_L_e_holds T.F_L_e_holds.kp (bi_L_e_holds T) (let0 (nox_L_e_holds d)) (ja_cons (je_var 0) (ja_cons (je_var 2) ja_nil))))) rfl))))))
theorem ok_L_called (T : Tx w K mg Cl) (d : Nat) : FnOk P w K mg base CX0 (d + 1) T.a_L_called T.d_L_called ["_law_rule", "_law_e"] (spM K Cl 2 (m_L_called d)) := (okS_L_called T d).1
theorem ok_L_e_holds (T : Tx w K mg Cl) (d : Nat) : FnOk P w K mg base CX0 (d + 1) T.a_L_e_holds T.d_L_e_holds ["_law_rule", "_law_e"] (spM K Cl 2 (m_L_e_holds d)) := (okS_L_called T d).2
theorem sc_L_b_holds : FnScope ["_law_rule", "_law_body", "_law_before", "_law_s"] ["_law_rule", "_law_body"] (defScope s_L_b_holds) := ⟨rfl, rfl, rfl, by decide +kernel, rfl, by decide +kernel, by decide +kernel⟩
theorem bi_L_b_holds (T : Tx w K mg Cl) : Binds K T.d_L_b_holds ["_law_rule", "_law_body"] [] := T.F_L_b_holds.binds fun _ _ _ _ _ _ us hl => match us, hl with | [_, _], _ => rfl
theorem sc_L_s_holds : FnScope ["_law_rule", "_law_s", "_law_body", "_law_one_here"] ["_law_rule", "_law_s"] (defScope s_L_s_holds) := ⟨rfl, rfl, rfl, by decide +kernel, rfl, by decide +kernel, by decide +kernel⟩
theorem bi_L_s_holds (T : Tx w K mg Cl) : Binds K T.d_L_s_holds ["_law_rule", "_law_s"] [] := T.F_L_s_holds.binds fun _ _ _ _ _ _ us hl => match us, hl with | [_, _], _ => rfl
theorem okS_L_b_holds (T : Tx w K mg Cl) : ∀ d : Nat, (FnOk P w K mg base CX0 (d + 42) T.a_L_b_holds T.d_L_b_holds ["_law_rule", "_law_body"] (spM K Cl 2 (m_L_b_holds d))) ∧ (FnOk P w K mg base CX0 (d + 42) T.a_L_s_holds T.d_L_s_holds ["_law_rule", "_law_s"] (spM K Cl 2 (m_L_s_holds d)))
  | 0 => by
    refine ⟨?_, ?_⟩
    · rw [Nat.zero_add]
      exact fn_ok T.F_L_b_holds sc_L_b_holds rfl rfl fun cdv A outer s H E hr => jss_dead
    · rw [Nat.zero_add]
      exact fn_ok T.F_L_s_holds sc_L_s_holds rfl rfl fun cdv A outer s H E hr => jss_dead
  | d + 1 => by
    obtain ⟨ih0, ih1⟩ := okS_L_b_holds T d
    refine ⟨?_, ?_⟩
    · refine fn_ok T.F_L_b_holds sc_L_b_holds rfl rfl fun cdv A outer s H E hr => ?_
      have hN := (sc_L_b_holds).nd
      exact (jss_cons (js_set 2 hN (je_dget (room1 hr) (je_var 0) je_str))
    (jss_cons (js_for PassesOwn.never rfl (ji_tup (je_var 1)) (jg_name 3 hN) (jss_one (js_if (jt_not (jt_tru (je_call ih1 (hr.mono (by omega)) T.g_L_s_holds T.F_L_s_holds.kp (bi_L_s_holds T) (let0 (nox_L_s_holds d)) (ja_cons (je_var 0) (ja_cons (je_var 3) ja_nil))))) (jss_one (js_ret je_bl)) jss_nil)))
    (jss_cons (js_dput (room1 hr) (je_var 0) je_str (je_var 2))
    (jss_one (js_ret je_bl)))))
    · refine fn_ok T.F_L_s_holds sc_L_s_holds rfl rfl fun cdv A outer s H E hr => ?_
      have hN := (sc_L_s_holds).nd
      exact (jss_cons (js_if (jt_cmp (o_eq (room65 hr)) (je_ix (je_var 1) je_int) je_str (nomark _)) (jss_one (js_ret (je_call (ok_L_called T 40) (hr.mono (by omega)) T.g_L_called T.F_L_called.kp (bi_L_called T) (let0 (nox_L_called 40)) (ja_cons (je_var 0) (ja_cons (je_var 1) ja_nil))))) jss_nil)
    (jss_cons (js_if (jt_cmp (o_in (room65 hr)) (je_ix (je_var 1) je_int) (je_lst (ja_cons je_str (ja_cons je_str ja_nil))) rfl) (jss_one (js_ret (je_and (je_call (ok_L_e_holds T 40) (hr.mono (by omega)) T.g_L_e_holds T.F_L_e_holds.kp (bi_L_e_holds T) (let0 (nox_L_e_holds 40)) (ja_cons (je_var 0) (ja_cons (je_ix (je_var 1) je_int) ja_nil))) (je_one (je_cmp (o_notIn (room65 hr)) je_bl (je_lc rfl hN (ji_tup (je_sl (je_var 1) (jo_some je_int) jo_none)) (blkOk_by (own := [("_law_body", 2)]) (by show blkC ["_law_rule", "_law_s", "_law_body", "_law_one_here"] (defScope s_L_s_holds) _ [("_law_body", 2)] = true; decide +kernel)) (fun _ _ _ _ _ => (jn_nm 2 hN)) (fun _ _ _ _ _ => jts_nil) (fun _ _ _ _ _ => (je_call ih0 (hr.mono (by omega)) T.g_L_b_holds T.F_L_b_holds.kp (bi_L_b_holds T) (let0 (nox_L_b_holds d)) (ja_cons (je_var 0) (ja_cons (je_var 2) ja_nil))))) rfl))))) jss_nil)
    (jss_cons (js_if (jt_w (jw_or (jt_w (jw_and (jt_cmp (o_eq (room65 hr)) (je_ix (je_var 1) je_int) je_str (nomark _)) (jw_and1 (jt_cmp o_ge (je_ix (je_var 1) je_int) (je_callB c_len T.b_len PySem.boot_len (ja_cons (je_dget (room1 hr) (je_var 0) je_str) ja_nil)) (nomark _))))) (jw_or1 (jt_w (jw_and (jt_cmp (o_eq (room65 hr)) (je_ix (je_var 1) je_int) je_str (nomark _)) (jw_and1 (jt_not (jt_tru (je_dget (room1 hr) (je_var 0) je_str))))))))) (jss_one (js_ret je_bl)) jss_nil)
    (jss_cons (js_if (jt_cmp (o_in (room65 hr)) je_bl (je_lc rfl hN (ji_tup (je_sl (je_var 1) (jo_some je_int) jo_none)) (blkOk_by (own := [("_law_one_here", 3)]) (by show blkC ["_law_rule", "_law_s", "_law_body", "_law_one_here"] (defScope s_L_s_holds) _ [("_law_one_here", 3)] = true; decide +kernel)) (fun _ _ _ _ _ => (jn_nm 3 hN)) (fun _ _ _ _ _ => (jts_one (jt_tru (je_isi T.b_isinstance T.b_tuple PyProof.Rows.boot_tuple (je_var 3))))) (fun _ _ _ _ _ => (je_call (ok_L_e_holds T 40) (hr.mono (by omega)) T.g_L_e_holds T.F_L_e_holds.kp (bi_L_e_holds T) (let0 (nox_L_e_holds 40)) (ja_cons (je_var 0) (ja_cons (je_var 3) ja_nil))))) rfl) (jss_one (js_ret je_bl)) jss_nil)
    (jss_cons (js_if (jt_cmp (o_eq (room65 hr)) (je_ix (je_var 1) je_int) je_str (nomark _)) (jss_one (js_ret (je_cmp (o_in (room65 hr)) (je_ix (je_var 1) je_int) (je_dget (room1 hr) (je_var 0) je_str) rfl))) jss_nil)
    (jss_cons (js_if (jt_cmp (o_eq (room65 hr)) (je_ix (je_var 1) je_int) je_str (nomark _)) (jss_cons (js_dput (room1 hr) (je_var 0) je_str (je_op o_add (je_dget (room1 hr) (je_var 0) je_str) (je_lst (ja_cons (je_ix (je_var 1) je_int) ja_nil))))
    (jss_cons (js_dput (room1 hr) (je_var 0) je_str (je_op o_add (je_dget (room1 hr) (je_var 0) je_str) je_int))
    (jss_one (js_ret (je_cmp (o_eq (room65 hr)) (je_ix (je_var 1) je_int) (je_op o_sub (je_dget (room1 hr) (je_var 0) je_str) je_int) (nomark _)))))) jss_nil)
    (jss_one (js_ret je_bl))))))))
theorem ok_L_b_holds (T : Tx w K mg Cl) (d : Nat) : FnOk P w K mg base CX0 (d + 42) T.a_L_b_holds T.d_L_b_holds ["_law_rule", "_law_body"] (spM K Cl 2 (m_L_b_holds d)) := (okS_L_b_holds T d).1
theorem ok_L_s_holds (T : Tx w K mg Cl) (d : Nat) : FnOk P w K mg base CX0 (d + 42) T.a_L_s_holds T.d_L_s_holds ["_law_rule", "_law_s"] (spM K Cl 2 (m_L_s_holds d)) := (okS_L_b_holds T d).2
theorem sc_L_f_holds : FnScope ["_law_sizes", "_law_params", "_law_function", "_law_most", "_law_rule"] ["_law_sizes", "_law_params", "_law_function", "_law_most"] (defScope s_L_f_holds) := ⟨rfl, rfl, rfl, by decide +kernel, rfl, by decide +kernel, by decide +kernel⟩
theorem bi_L_f_holds (T : Tx w K mg Cl) : Binds K T.d_L_f_holds ["_law_sizes", "_law_params", "_law_function", "_law_most"] [] := T.F_L_f_holds.binds fun _ _ _ _ _ _ us hl => match us, hl with | [_, _, _, _], _ => rfl
theorem ok_L_f_holds (T : Tx w K mg Cl) : FnOk P w K mg base CX0 83 T.a_L_f_holds T.d_L_f_holds ["_law_sizes", "_law_params", "_law_function", "_law_most"] (spM K Cl 4 m_L_f_holds) := by
  refine fn_ok T.F_L_f_holds sc_L_f_holds rfl rfl fun cdv A outer s H E hr => ?_
  have hN := (sc_L_f_holds).nd
  exact (jss_cons (js_if (jt_w (jw_or (jt_not (jt_tru (je_isi T.b_isinstance T.b_tuple PyProof.Rows.boot_tuple (je_var 2)))) (jw_or (jt_cmp (o_ne (room65 hr)) (je_callB c_len T.b_len PySem.boot_len (ja_cons (je_var 2) ja_nil)) je_int (nomark _)) (jw_or1 (jt_not (jt_tru (je_call (ok_L_is_int T) (hr.mono (by decide)) T.g_L_is_int T.F_L_is_int.kp (bi_L_is_int T) (let0 nox_def) (ja_cons (je_ix (je_var 2) je_int) (ja_cons je_int (ja_cons (je_var 3) ja_nil)))))))))) (jss_one (js_ret je_bl)) jss_nil)
    (jss_cons (js_if (jt_w (jw_or (jt_not (jt_tru (je_call (ok_L_is_int T) (hr.mono (by decide)) T.g_L_is_int T.F_L_is_int.kp (bi_L_is_int T) (let0 nox_def) (ja_cons (je_ix (je_var 2) je_int) (ja_cons je_int (ja_cons (je_op o_pow je_int je_int) ja_nil)))))) (jw_or1 (jt_not (jt_tru (je_call (ok_L_is_part T 40) (hr.mono (by decide)) T.g_L_is_part T.F_L_is_part.kp (bi_L_is_part T) (let0 (nox_L_is_part 40)) (ja_cons je_str (ja_cons (je_ix (je_var 2) je_int) (ja_cons je_int ja_nil))))))))) (jss_one (js_ret je_bl)) jss_nil)
    (jss_cons (js_set 4 hN (je_disp (jp_cons je_str (je_var 0) (jp_cons je_str (je_var 1) (jp_cons je_str (je_listRg T.b_list T.b_range (je_ix (je_var 2) je_int)) (jp_cons je_str (je_ix (je_var 2) je_int) (jp_cons je_str (je_cmp o_gt (je_var 3) je_int (nomark _)) jp_nil)))))))
    (jss_one (js_ret (je_and (je_call (ok_L_b_holds T 40) (hr.mono (by decide)) T.g_L_b_holds T.F_L_b_holds.kp (bi_L_b_holds T) (let0 (nox_L_b_holds 40)) (ja_cons (je_var 4) (ja_cons (je_ix (je_var 2) je_int) ja_nil))) (je_one (je_cmp (o_eq (room65 hr)) (je_dget (room1 hr) (je_var 4) je_str) (je_ix (je_var 2) je_int) (nomark _)))))))))
theorem sc_L_is_checked : FnScope ["_law_value", "_law_row", "_law_size", "_law_params", "_law_function"] ["_law_value"] (defScope s_L_is_checked) := ⟨rfl, rfl, rfl, by decide +kernel, rfl, by decide +kernel, by decide +kernel⟩
theorem bi_L_is_checked (T : Tx w K mg Cl) : Binds K T.d_L_is_checked ["_law_value"] [] := T.F_L_is_checked.binds fun _ _ _ _ _ _ us hl => match us, hl with | [_], _ => rfl
theorem ok_L_is_checked (T : Tx w K mg Cl) : FnOk P w K mg base CX0 84 T.a_L_is_checked T.d_L_is_checked ["_law_value"] (spM K Cl 1 m_L_is_checked) := by
  refine fn_ok T.F_L_is_checked sc_L_is_checked rfl rfl fun cdv A outer s H E hr => ?_
  have hN := (sc_L_is_checked).nd
  exact (jss_cons (js_if (jt_w (jw_or (jt_not (jt_tru (je_isi T.b_isinstance T.b_tuple PyProof.Rows.boot_tuple (je_var 0)))) (jw_or (jt_cmp (o_ne (room65 hr)) (je_callB c_len T.b_len PySem.boot_len (ja_cons (je_var 0) ja_nil)) je_int (nomark _)) (jw_or (jt_not (jt_tru (je_isi T.b_isinstance T.b_str PyProof.Rows.boot_str (je_ix (je_var 0) je_int)))) (jw_or1 (jt_cmp (o_ne (room65 hr)) (je_ix (je_var 0) je_int) je_str (nomark _))))))) (jss_one (js_ret je_bl)) jss_nil)
    (jss_cons (js_for PassesOwn.never rfl (ji_tup (je_sl (je_var 0) (jo_some je_int) (jo_some je_int))) (jg_name 1 hN) (jss_one (js_if (jt_w (jw_or (jt_not (jt_tru (je_isi T.b_isinstance T.b_tuple PyProof.Rows.boot_tuple (je_var 1)))) (jw_or1 (jt_cmp o_gt (je_callB c_len T.b_len PySem.boot_len (ja_cons (je_var 1) ja_nil)) je_int (nomark _))))) (jss_one (js_ret je_bl)) jss_nil)))
    (jss_cons (js_if (jt_cmp (o_in (room65 hr)) je_bl (je_lc rfl hN (ji_tup (je_ix (je_var 0) je_int)) (blkOk_by (own := [("_law_size", 2)]) (by show blkC ["_law_value", "_law_row", "_law_size", "_law_params", "_law_function"] (defScope s_L_is_checked) _ [("_law_size", 2)] = true; decide +kernel)) (fun _ _ _ _ _ => (jn_nm 2 hN)) (fun _ _ _ _ _ => jts_nil) (fun _ _ _ _ _ => (je_call (ok_L_is_int T) (hr.mono (by decide)) T.g_L_is_int T.F_L_is_int.kp (bi_L_is_int T) (let0 nox_def) (ja_cons (je_var 2) (ja_cons je_int (ja_cons je_int ja_nil)))))) rfl) (jss_one (js_ret je_bl)) jss_nil)
    (jss_cons (js_set 3 hN (je_lstS ja_nil))
    (jss_cons (js_for PassesOwn.never rfl (ji_tup (je_ix (je_var 0) je_int)) (jg_name 4 hN) (jss_cons (js_if (jt_not (jt_tru (je_call (ok_L_f_holds T) (hr.mono (by decide)) T.g_L_f_holds T.F_L_f_holds.kp (bi_L_f_holds T) (let0 nox_def) (ja_cons (je_ix (je_var 0) je_int) (ja_cons (je_callTy c_list T.b_list PyProof.Rows.boot_list (ja_cons (je_var 3) ja_nil)) (ja_cons (je_var 4) (ja_cons je_int ja_nil))))))) (jss_one (js_ret je_bl)) jss_nil)
    (jss_one (js_expr (je_lm PySem.F.slot_list_append PySem.F.type_list_append m_app (je_var 3) (ja_cons (je_ix (je_var 4) je_int) ja_nil))))))
    (jss_one (js_ret (je_call (ok_L_f_holds T) (hr.mono (by decide)) T.g_L_f_holds T.F_L_f_holds.kp (bi_L_f_holds T) (let0 nox_def) (ja_cons (je_ix (je_var 0) je_int) (ja_cons (je_var 3) (ja_cons (je_ix (je_var 0) je_int) (ja_cons je_int ja_nil))))))))))))
theorem sc_law : FnScope ["_law_script", "_law_k", "_law_bag_here", "_law_value", "_law_actual", "_law_turn"] ["_law_script"] (defScope s_law) := ⟨rfl, rfl, rfl, by decide +kernel, rfl, by decide +kernel, by decide +kernel⟩
theorem bi_law (T : Tx w K mg Cl) : Binds K T.d_law ["_law_script"] [] := T.F_law.binds fun _ _ _ _ _ _ us hl => match us, hl with | [_], _ => rfl
theorem ok_law (T : Tx w K mg Cl) : FnOk P w K mg base CX0 85 T.a_law T.d_law ["_law_script"] (spM K Cl 1 m_law) := by
  refine fn_ok T.F_law sc_law rfl rfl fun cdv A outer s H E hr => ?_
  have hN := (sc_law).nd
  exact (jss_cons (js_for PassesOwn.never rfl (ji_rng1 T.b_range (ja_cons (je_callB (c_max2 rfl) T.b_max PyProof.Rows.boot_max (ja_cons je_int (ja_cons (je_callB (c_min2 rfl) T.b_min PyProof.Rows.boot_min (ja_cons je_int (ja_cons (je_callB c_len T.b_len PySem.boot_len (ja_cons (je_var 0) ja_nil)) ja_nil))) ja_nil))) ja_nil)) (jg_name 1 hN) (jss_cons (js_set 2 hN (je_call (ok_L_bag T) (hr.mono (by decide)) T.g_L_bag T.F_L_bag.kp (bi_L_bag T) (let0 nox_def) (ja_cons (je_var 0) (ja_cons (je_var 1) ja_nil))))
    (jss_cons (js_set 3 hN (je_call (ok_L_checked T) (hr.mono (by decide)) T.g_L_checked T.F_L_checked.kp (bi_L_checked T) (let0 nox_def) (ja_cons (je_var 2) (ja_cons je_int ja_nil))))
    (jss_cons (js_if (jt_cmp o_notB (je_call (ok_is_checked T) (hr.mono (by decide)) T.g_is_checked T.F_is_checked.kp (bi_is_checked T) (let0 nox_def) (ja_cons (je_var 3) ja_nil)) je_bl (nomark _)) (jss_one (js_ret je_bl)) jss_nil)
    (jss_cons (js_if (jt_cmp (o_eq (room65 hr)) (je_call (ok_L_draw T) (hr.mono (by decide)) T.g_L_draw T.F_L_draw.kp (bi_L_draw T) (let0 nox_def) (ja_cons (je_var 2) (ja_cons je_int ja_nil))) je_int (nomark _)) (jss_one (js_set 3 hN (je_call (ok_L_large T) (hr.mono (by decide)) T.g_L_large T.F_L_large.kp (bi_L_large T) (let0 nox_def) (ja_cons (je_var 2) ja_nil)))) (jss_one (js_if (jt_cmp o_gt (je_call (ok_L_draw T) (hr.mono (by decide)) T.g_L_draw T.F_L_draw.kp (bi_L_draw T) (let0 nox_def) (ja_cons (je_var 2) (ja_cons je_int ja_nil))) je_int (nomark _)) (jss_one (js_for PassesOwn.never rfl (ji_rng1 T.b_range (ja_cons (je_op o_add je_int (je_call (ok_L_draw T) (hr.mono (by decide)) T.g_L_draw T.F_L_draw.kp (bi_L_draw T) (let0 nox_def) (ja_cons (je_var 2) (ja_cons je_int ja_nil)))) ja_nil)) (jg_name 5 hN) (jss_one (js_set 3 hN (je_call (ok_L_spoilt T 30) (hr.mono (by decide)) T.g_L_spoilt T.F_L_spoilt.kp (bi_L_spoilt T) (let0 (nox_L_spoilt 30)) (ja_cons (je_var 2) (ja_cons (je_var 3) (ja_cons (je_call (ok_L_odd T) (hr.mono (by decide)) T.g_L_odd T.F_L_odd.kp (bi_L_odd T) (let0 nox_def) (ja_cons (je_var 2) ja_nil)) ja_nil)))))))) jss_nil)))
    (jss_cons (js_set 4 hN (je_call (ok_is_checked T) (hr.mono (by decide)) T.g_is_checked T.F_is_checked.kp (bi_is_checked T) (let0 nox_def) (ja_cons (je_var 3) ja_nil)))
    (jss_one (js_if (jt_w (jw_or (jt_not (jt_tru (je_isi T.b_isinstance T.b_bool PyProof.Rows.boot_bool (je_var 4)))) (jw_or1 (jt_cmp (o_ne (room65 hr)) (je_var 4) (je_call (ok_L_is_checked T) (hr.mono (by decide)) T.g_L_is_checked T.F_L_is_checked.kp (bi_L_is_checked T) (let0 nox_def) (ja_cons (je_var 3) ja_nil)) (nomark _))))) (jss_one (js_ret je_bl)) jss_nil))))))))
    (jss_one (js_ret (je_and (je_cmp o_isB (je_call (ok_is_checked T) (hr.mono (by decide)) T.g_is_checked T.F_is_checked.kp (bi_is_checked T) (let0 nox_def) (ja_cons je_non ja_nil)) je_bl (nomark _)) (je_one (je_cmp o_isB (je_call (ok_is_checked T) (hr.mono (by decide)) T.g_is_checked T.F_is_checked.kp (bi_is_checked T) (let0 nox_def) (ja_cons (je_tup (ja_cons je_str (ja_cons (je_tup ja_nil) (ja_cons (je_tup ja_nil) (ja_cons (je_tup (ja_cons je_int (ja_cons je_int (ja_cons (je_tup ja_nil) ja_nil)))) ja_nil))))) ja_nil)) je_bl (nomark _)))))))
end

end Gn
namespace Gn
open PySem L2 Mi
/-! ### checked trees -/
mutual
inductive Ex where
  | num (i : Int) | slot (i : Int) | inputs | tab (t : Int) (e : Ex) | call (f : Int) (a : Exs) | input (e : Ex) | not (e : Ex) | op (s : Str) (a b : Ex) | lg (o : Bool) (a b : Ex)
inductive Exs where
  | nil | cons (e : Ex) (r : Exs)
end
mutual
inductive Sm' where
  | lt (new : Bool) (i : Int) (e : Ex) | put (t : Int) (a b : Ex) | ite (c : Ex) (a b : Sms) | whl (c : Ex) (b : Sms) | tell (e : Ex) | give (e : Ex) | run (f : Int) (a : Exs)
inductive Sms where
  | nil | cons (s : Sm') (r : Sms)
end
abbrev lgS (o : Bool) : Str := if o then "or" else "and"
mutual
def encE : Ex → W
  | .num i => .tup [.str "number", .int i]
  | .slot i => .tup [.str "slot", .int i]
  | .inputs => .tup [.str "inputs"]
  | .tab t e => .tup [.str "at", .int t, encE e]
  | .call f a => .tup [.str "call", .int f, .tup (encEs a)]
  | .input e => .tup [.str "input", encE e]
  | .not e => .tup [.str "not", encE e]
  | .op s a b => .tup [.str "op", .str s, encE a, encE b]
  | .lg o a b => .tup [.str (lgS o), encE a, encE b]
def encEs : Exs → List W
  | .nil => []
  | .cons e r => encE e :: encEs r
end
abbrev ltS (o : Bool) : Str := if o then "let" else "set"
mutual
def encS : Sm' → W
  | .lt n i e => .tup [.str (ltS n), .int i, encE e]
  | .put t a b => .tup [.str "put", .int t, encE a, encE b]
  | .ite c a b => .tup [.str "if", encE c, .tup (encSs a), .tup (encSs b)]
  | .whl c b => .tup [.str "while", encE c, .tup (encSs b)]
  | .tell e => .tup [.str "tell", encE e]
  | .give e => .tup [.str "give", encE e]
  | .run f a => .tup [.str "do", .int f, .tup (encEs a)]
def encSs : Sms → List W
  | .nil => []
  | .cons s r => encS s :: encSs r
end
/-! ### what has the form of a node -/
def signs : List Str := ["+", "-", "*", "/", "mod", "==", "!=", "<", "<=", ">", ">="]
def formsE (s : Str) : Option (List Str) :=
  if s = "number" then some ["word"] else if s = "slot" then some ["slot"] else if s = "at" then some ["table", "expression"] else if s = "call" then some ["function", "args"] else
  if s = "input" then some ["expression"] else if s = "inputs" then some [] else if s = "not" then some ["expression"] else if s = "op" then some ["sign", "expression", "expression"] else
  if s = "and" then some ["expression", "expression"] else if s = "or" then some ["expression", "expression"] else none
def formsS (s : Str) : Option (List Str) :=
  if s = "let" then some ["slot", "expression"] else if s = "set" then some ["slot", "expression"] else if s = "put" then some ["table", "expression", "expression"] else
  if s = "if" then some ["expression", "body", "body"] else if s = "while" then some ["expression", "body"] else if s = "tell" then some ["expression"] else
  if s = "give" then some ["expression"] else if s = "do" then some ["function", "args"] else none
def isNumW : W → Bool
  | .int i => decide (0 ≤ i)
  | _ => false
def isWordW : W → Bool
  | .int i => decide (0 ≤ i ∧ i ≤ 65535)
  | _ => false
def signW : W → Bool
  | .str s => decide (s ∈ signs)
  | _ => false
def leafF (f : Str) (x : W) : Bool := if f = "slot" ∨ f = "table" ∨ f = "function" then isNumW x else if f = "word" then isWordW x else signW x
def argsW (p : W → Bool) : W → Bool
  | .tup ys => decide (ys.length ≤ 4) && ys.all p
  | _ => false
def bodyW (p : W → Bool) : W → Bool
  | .tup ys => ys.all p
  | _ => false
def partW (rec : Bool → W → Bool) (f : Str) (x : W) : Bool :=
  if f = "expression" then rec false x else if f = "body" then bodyW (rec true) x else if f = "args" then argsW (rec false) x else leafF f x
def zipAll (part : Str → W → Bool) : List Str → List W → Bool
  | f :: fs, x :: xs => part f x && zipAll part fs xs
  | _, _ => true
def nodeW (forms : Str → Option (List Str)) (part : Str → W → Bool) : W → Bool
  | .tup (.str s :: xs) => match forms s with
    | some fs => decide (xs.length = fs.length) && zipAll part fs xs
    | none => false
  | _ => false
def sh : Nat → Bool → W → Bool
  | 0, _, _ => false
  | k + 1, b, w => nodeW (if b then formsS else formsE) (partW (sh k)) w
/-! ### trees that have it -/
mutual
/-- the leaves are in their bounds, and there are at most k levels -/
def fineE : Nat → Ex → Prop
  | 0, _ => False
  | k + 1, .num i => 0 ≤ i ∧ i ≤ 65535
  | k + 1, .slot i => 0 ≤ i
  | k + 1, .inputs => True
  | k + 1, .tab t e => 0 ≤ t ∧ fineE k e
  | k + 1, .call f a => 0 ≤ f ∧ (encEs a).length ≤ 4 ∧ fineEs k a
  | k + 1, .input e => fineE k e
  | k + 1, .not e => fineE k e
  | k + 1, .op s a b => s ∈ signs ∧ fineE k a ∧ fineE k b
  | k + 1, .lg o a b => fineE k a ∧ fineE k b
def fineEs : Nat → Exs → Prop
  | _, .nil => True
  | k, .cons e r => fineE k e ∧ fineEs k r
end
mutual
def fineS : Nat → Sm' → Prop
  | 0, _ => False
  | k + 1, .lt n i e => 0 ≤ i ∧ fineE k e
  | k + 1, .put t a b => 0 ≤ t ∧ fineE k a ∧ fineE k b
  | k + 1, .ite c a b => fineE k c ∧ fineSs k a ∧ fineSs k b
  | k + 1, .whl c b => fineE k c ∧ fineSs k b
  | k + 1, .tell e => fineE k e
  | k + 1, .give e => fineE k e
  | k + 1, .run f a => 0 ≤ f ∧ (encEs a).length ≤ 4 ∧ fineEs k a
def fineSs : Nat → Sms → Prop
  | _, .nil => True
  | k, .cons s r => fineS k s ∧ fineSs k r
end
theorem num_w {x : W} (h : isNumW x = true) : ∃ i : Int, x = .int i ∧ 0 ≤ i := by
  cases x <;> simp [isNumW] at h
  exact ⟨_, rfl, h⟩
theorem word_w {x : W} (h : isWordW x = true) : ∃ i : Int, x = .int i ∧ 0 ≤ i ∧ i ≤ 65535 := by
  cases x <;> simp [isWordW] at h
  exact ⟨_, rfl, h.1, h.2⟩
theorem sign_w {x : W} (h : signW x = true) : ∃ s, x = .str s ∧ s ∈ signs := by
  cases x <;> simp [signW] at h
  exact ⟨_, rfl, h⟩
theorem formsE_cases {s : Str} {fs : List Str} (h : formsE s = some fs) : (s = "number" ∧ fs = (["word"] : List Str)) ∨ (s = "slot" ∧ fs = (["slot"] : List Str)) ∨ (s = "at" ∧ fs = (["table", "expression"] : List Str)) ∨ (s = "call" ∧ fs = (["function", "args"] : List Str)) ∨
    (s = "input" ∧ fs = (["expression"] : List Str)) ∨ (s = "inputs" ∧ fs = ([] : List Str)) ∨ (s = "not" ∧ fs = (["expression"] : List Str)) ∨ (s = "op" ∧ fs = (["sign", "expression", "expression"] : List Str)) ∨ (s = "and" ∧ fs = (["expression", "expression"] : List Str)) ∨ (s = "or" ∧ fs = (["expression", "expression"] : List Str)) := by
  unfold formsE at h
  repeat (split at h; · rename_i e; injection h with h; subst h; simp [e])
  cases h
theorem formsS_cases {s : Str} {fs : List Str} (h : formsS s = some fs) : (s = "let" ∧ fs = (["slot", "expression"] : List Str)) ∨ (s = "set" ∧ fs = (["slot", "expression"] : List Str)) ∨ (s = "put" ∧ fs = (["table", "expression", "expression"] : List Str)) ∨ (s = "if" ∧ fs = (["expression", "body", "body"] : List Str)) ∨
    (s = "while" ∧ fs = (["expression", "body"] : List Str)) ∨ (s = "tell" ∧ fs = (["expression"] : List Str)) ∨ (s = "give" ∧ fs = (["expression"] : List Str)) ∨ (s = "do" ∧ fs = (["function", "args"] : List Str)) := by
  unfold formsS at h
  repeat (split at h; · rename_i e; injection h with h; subst h; simp [e])
  cases h
theorem len0 {α : Type} {xs : List α} (h : xs.length = 0) : xs = [] := List.length_eq_zero_iff.mp h
theorem len1 {α : Type} {xs : List α} (h : xs.length = 1) : ∃ a, xs = [a] := List.length_eq_one_iff.mp h
theorem len2 {α : Type} {xs : List α} (h : xs.length = 2) : ∃ a b, xs = [a, b] := by
  match xs, h with
  | [a, b], _ => exact ⟨a, b, rfl⟩
theorem len3 {α : Type} {xs : List α} (h : xs.length = 3) : ∃ a b c, xs = [a, b, c] := by
  match xs, h with
  | [a, b, c], _ => exact ⟨a, b, c, rfl⟩
theorem nodeW_some {forms : Str → Option (List Str)} {part : Str → W → Bool} {w : W} (h : nodeW forms part w = true) : ∃ s xs fs, w = .tup (.str s :: xs) ∧ forms s = some fs ∧ xs.length = fs.length ∧ zipAll part fs xs = true := by
  unfold nodeW at h
  split at h
  · rename_i s xs
    split at h
    · rename_i fs e
      simp only [Bool.and_eq_true, decide_eq_true_eq] at h
      exact ⟨s, xs, fs, rfl, e, h.1, h.2⟩
    · cases h
  · cases h
theorem exs_of {p : W → Bool} {k : Nat} (h : ∀ x, p x = true → ∃ e, x = encE e ∧ fineE k e) : ∀ ys : List W, ys.all p = true → ∃ a, ys = encEs a ∧ fineEs k a
  | [], _ => ⟨.nil, by simp [encEs], by simp [fineEs]⟩
  | y :: ys, hy => by
    simp only [List.all_cons, Bool.and_eq_true] at hy
    obtain ⟨e, he, hf⟩ := h y hy.1
    obtain ⟨a, ha, hfa⟩ := exs_of h ys hy.2
    exact ⟨.cons e a, by rw [encEs, he, ha], by rw [fineEs]; exact ⟨hf, hfa⟩⟩
theorem sms_of {p : W → Bool} {k : Nat} (h : ∀ x, p x = true → ∃ e, x = encS e ∧ fineS k e) : ∀ ys : List W, ys.all p = true → ∃ a, ys = encSs a ∧ fineSs k a
  | [], _ => ⟨.nil, by simp [encSs], by simp [fineSs]⟩
  | y :: ys, hy => by
    simp only [List.all_cons, Bool.and_eq_true] at hy
    obtain ⟨e, he, hf⟩ := h y hy.1
    obtain ⟨a, ha, hfa⟩ := sms_of h ys hy.2
    exact ⟨.cons e a, by rw [encSs, he, ha], by rw [fineSs]; exact ⟨hf, hfa⟩⟩
theorem args_of {k : Nat} (h : ∀ x, sh k false x = true → ∃ e, x = encE e ∧ fineE k e) {y : W} (hy : argsW (sh k false) y = true) : ∃ a, y = .tup (encEs a) ∧ (encEs a).length ≤ 4 ∧ fineEs k a := by
  cases y <;> simp [argsW] at hy
  rename_i ys
  obtain ⟨a, ha, hf⟩ := exs_of h ys (by simpa using hy.2)
  exact ⟨a, by rw [ha], by rw [← ha]; exact hy.1, hf⟩
theorem body_of {k : Nat} (h : ∀ x, sh k true x = true → ∃ e, x = encS e ∧ fineS k e) {y : W} (hy : bodyW (sh k true) y = true) : ∃ a, y = .tup (encSs a) ∧ fineSs k a := by
  cases y <;> simp [bodyW] at hy
  rename_i ys
  obtain ⟨a, ha, hf⟩ := sms_of h ys (by simpa using hy)
  exact ⟨a, by rw [ha], hf⟩
theorem shE_ex : ∀ (k : Nat) (w : W), sh k false w = true → ∃ e, w = encE e ∧ fineE k e
  | 0, w, h => by cases h
  | k + 1, w, h => by
    obtain ⟨s, xs, fs, rfl, hf, hl, hz⟩ := nodeW_some h
    have ih := shE_ex k
    rcases formsE_cases hf with ⟨rfl, rfl⟩ | ⟨rfl, rfl⟩ | ⟨rfl, rfl⟩ | ⟨rfl, rfl⟩ | ⟨rfl, rfl⟩ | ⟨rfl, rfl⟩ | ⟨rfl, rfl⟩ | ⟨rfl, rfl⟩ | ⟨rfl, rfl⟩ | ⟨rfl, rfl⟩
    · obtain ⟨x, rfl⟩ := len1 hl
      simp [zipAll, partW, leafF] at hz
      obtain ⟨i, rfl, h0, h1⟩ := word_w hz
      exact ⟨.num i, rfl, h0, h1⟩
    · obtain ⟨x, rfl⟩ := len1 hl
      simp [zipAll, partW, leafF] at hz
      obtain ⟨i, rfl, h0⟩ := num_w hz
      exact ⟨.slot i, rfl, h0⟩
    · obtain ⟨x, y, rfl⟩ := len2 hl
      simp [zipAll, partW, leafF] at hz
      obtain ⟨i, rfl, h0⟩ := num_w hz.1
      obtain ⟨e, rfl, h1⟩ := ih y hz.2
      exact ⟨.tab i e, rfl, h0, h1⟩
    · obtain ⟨x, y, rfl⟩ := len2 hl
      simp [zipAll, partW, leafF] at hz
      obtain ⟨i, rfl, h0⟩ := num_w hz.1
      obtain ⟨a, rfl, h1, h2⟩ := args_of ih hz.2
      exact ⟨.call i a, rfl, h0, h1, h2⟩
    · obtain ⟨x, rfl⟩ := len1 hl
      simp [zipAll, partW, leafF] at hz
      obtain ⟨e, rfl, h1⟩ := ih x hz
      exact ⟨.input e, rfl, h1⟩
    · cases len0 hl
      exact ⟨.inputs, rfl, trivial⟩
    · obtain ⟨x, rfl⟩ := len1 hl
      simp [zipAll, partW, leafF] at hz
      obtain ⟨e, rfl, h1⟩ := ih x hz
      exact ⟨.not e, rfl, h1⟩
    · obtain ⟨x, y, z, rfl⟩ := len3 hl
      simp [zipAll, partW, leafF] at hz
      obtain ⟨s, rfl, h0⟩ := sign_w hz.1
      obtain ⟨a, rfl, h1⟩ := ih y hz.2.1
      obtain ⟨b, rfl, h2⟩ := ih z hz.2.2
      exact ⟨.op s a b, rfl, h0, h1, h2⟩
    · obtain ⟨x, y, rfl⟩ := len2 hl
      simp [zipAll, partW, leafF] at hz
      obtain ⟨a, rfl, h1⟩ := ih x hz.1
      obtain ⟨b, rfl, h2⟩ := ih y hz.2
      exact ⟨.lg false a b, rfl, h1, h2⟩
    · obtain ⟨x, y, rfl⟩ := len2 hl
      simp [zipAll, partW, leafF] at hz
      obtain ⟨a, rfl, h1⟩ := ih x hz.1
      obtain ⟨b, rfl, h2⟩ := ih y hz.2
      exact ⟨.lg true a b, rfl, h1, h2⟩
theorem shS_ex : ∀ (k : Nat) (w : W), sh k true w = true → ∃ s, w = encS s ∧ fineS k s
  | 0, w, h => by cases h
  | k + 1, w, h => by
    obtain ⟨s, xs, fs, rfl, hf, hl, hz⟩ := nodeW_some h
    have ie := shE_ex k
    have ih := shS_ex k
    rcases formsS_cases hf with ⟨rfl, rfl⟩ | ⟨rfl, rfl⟩ | ⟨rfl, rfl⟩ | ⟨rfl, rfl⟩ | ⟨rfl, rfl⟩ | ⟨rfl, rfl⟩ | ⟨rfl, rfl⟩ | ⟨rfl, rfl⟩
    · obtain ⟨x, y, rfl⟩ := len2 hl
      simp [zipAll, partW, leafF] at hz
      obtain ⟨i, rfl, h0⟩ := num_w hz.1
      obtain ⟨e, rfl, h1⟩ := ie y hz.2
      exact ⟨.lt true i e, rfl, h0, h1⟩
    · obtain ⟨x, y, rfl⟩ := len2 hl
      simp [zipAll, partW, leafF] at hz
      obtain ⟨i, rfl, h0⟩ := num_w hz.1
      obtain ⟨e, rfl, h1⟩ := ie y hz.2
      exact ⟨.lt false i e, rfl, h0, h1⟩
    · obtain ⟨x, y, z, rfl⟩ := len3 hl
      simp [zipAll, partW, leafF] at hz
      obtain ⟨i, rfl, h0⟩ := num_w hz.1
      obtain ⟨a, rfl, h1⟩ := ie y hz.2.1
      obtain ⟨b, rfl, h2⟩ := ie z hz.2.2
      exact ⟨.put i a b, rfl, h0, h1, h2⟩
    · obtain ⟨x, y, z, rfl⟩ := len3 hl
      simp [zipAll, partW, leafF] at hz
      obtain ⟨c, rfl, h1⟩ := ie x hz.1
      obtain ⟨a, rfl, h2⟩ := body_of ih hz.2.1
      obtain ⟨b, rfl, h3⟩ := body_of ih hz.2.2
      exact ⟨.ite c a b, rfl, h1, h2, h3⟩
    · obtain ⟨x, y, rfl⟩ := len2 hl
      simp [zipAll, partW, leafF] at hz
      obtain ⟨c, rfl, h1⟩ := ie x hz.1
      obtain ⟨a, rfl, h2⟩ := body_of ih hz.2
      exact ⟨.whl c a, rfl, h1, h2⟩
    · obtain ⟨x, rfl⟩ := len1 hl
      simp [zipAll, partW, leafF] at hz
      obtain ⟨e, rfl, h1⟩ := ie x hz
      exact ⟨.tell e, rfl, h1⟩
    · obtain ⟨x, rfl⟩ := len1 hl
      simp [zipAll, partW, leafF] at hz
      obtain ⟨e, rfl, h1⟩ := ie x hz
      exact ⟨.give e, rfl, h1⟩
    · obtain ⟨x, y, rfl⟩ := len2 hl
      simp [zipAll, partW, leafF] at hz
      obtain ⟨i, rfl, h0⟩ := num_w hz.1
      obtain ⟨a, rfl, h1, h2⟩ := args_of ie hz.2
      exact ⟨.run i a, rfl, h0, h1, h2⟩
/-! the other way -/
theorem all_encEs {p : W → Bool} {k : Nat} (h : ∀ e, fineE k e → p (encE e) = true) : ∀ a, fineEs k a → (encEs a).all p = true
  | .nil, _ => by simp [encEs]
  | .cons e r, hf => by
    rw [fineEs] at hf
    simp [encEs, h e hf.1]
    simpa using all_encEs h r hf.2
theorem all_encSs {p : W → Bool} {k : Nat} (h : ∀ e, fineS k e → p (encS e) = true) : ∀ a, fineSs k a → (encSs a).all p = true
  | .nil, _ => by simp [encSs]
  | .cons e r, hf => by
    rw [fineSs] at hf
    simp [encSs, h e hf.1]
    simpa using all_encSs h r hf.2
theorem ex_shE : ∀ (k : Nat) (e : Ex), fineE k e → sh k false (encE e) = true
  | 0, e, h => by cases e <;> simp [fineE] at h
  | k + 1, e, h => by
    have ih := ex_shE k
    cases e with
    | lg o a b =>
      simp only [fineE] at h
      cases o <;> simp [lgS, sh, encE, nodeW, formsE, zipAll, partW, leafF, ih a h.1, ih b h.2]
    | call f a =>
      simp only [fineE] at h
      have := all_encEs ih a h.2.2
      simp [sh, encE, nodeW, formsE, zipAll, partW, leafF, isNumW, argsW, h.1, h.2.1]
      simpa using this
    | op s a b => simp only [fineE] at h; simp [sh, encE, nodeW, formsE, zipAll, partW, leafF, signW, h.1, ih a h.2.1, ih b h.2.2]
    | tab t e => simp only [fineE] at h; simp [sh, encE, nodeW, formsE, zipAll, partW, leafF, isNumW, h.1, ih e h.2]
    | num i => simp only [fineE] at h; simp [sh, encE, nodeW, formsE, zipAll, partW, leafF, isWordW, h.1, h.2]
    | slot i => simp only [fineE] at h; simp [sh, encE, nodeW, formsE, zipAll, partW, leafF, isNumW, h]
    | inputs => simp [sh, encE, nodeW, formsE, zipAll]
    | input e => simp only [fineE] at h; simp [sh, encE, nodeW, formsE, zipAll, partW, ih e h]
    | not e => simp only [fineE] at h; simp [sh, encE, nodeW, formsE, zipAll, partW, ih e h]
theorem ex_shS : ∀ (k : Nat) (e : Sm'), fineS k e → sh k true (encS e) = true
  | 0, e, h => by cases e <;> simp [fineS] at h
  | k + 1, e, h => by
    have ie := ex_shE k
    have ih := ex_shS k
    have ib : ∀ a, fineSs k a → bodyW (sh k true) (.tup (encSs a)) = true := fun a ha => all_encSs ih a ha
    cases e with
    | lt o i e =>
      simp only [fineS] at h
      cases o <;> simp [ltS, sh, encS, nodeW, formsS, zipAll, partW, leafF, isNumW, h.1, ie e h.2]
    | run f a =>
      simp only [fineS] at h
      have := all_encEs ie a h.2.2
      simp [sh, encS, nodeW, formsS, zipAll, partW, leafF, isNumW, argsW, h.1, h.2.1]
      simpa using this
    | put t a b => simp only [fineS] at h; simp [sh, encS, nodeW, formsS, zipAll, partW, leafF, isNumW, h.1, ie a h.2.1, ie b h.2.2]
    | ite c a b => simp only [fineS] at h; simp [sh, encS, nodeW, formsS, zipAll, partW, ie c h.1, ib a h.2.1, ib b h.2.2]
    | whl c a => simp only [fineS] at h; simp [sh, encS, nodeW, formsS, zipAll, partW, ie c h.1, ib a h.2]
    | tell e => simp only [fineS] at h; simp [sh, encS, nodeW, formsS, zipAll, partW, ie e h]
    | give e => simp only [fineS] at h; simp [sh, encS, nodeW, formsS, zipAll, partW, ie e h]
end Gn

namespace Gn
open PySem L2 Mi
/-! ### the rules of checked trees -/
def callOk (pr : List Int) (f : Int) (n : Nat) : Bool := decide (f < (pr.length : Int)) && decide (pr.getD f.toNat 0 = (n : Int))
section
variable (sz : Nat) (pr : List Int) (g : Bool)
mutual
def rE (op : List Int) : Ex → Bool
  | .num _ => true
  | .slot i => decide (i ∈ op)
  | .inputs => true
  | .tab t e => decide (t < (sz : Int)) && rE op e
  | .call f a => callOk pr f (encEs a).length && rEs op a
  | .input e => rE op e
  | .not e => rE op e
  | .op _ a b => rE op a && rE op b
  | .lg _ a b => rE op a && rE op b
def rEs (op : List Int) : Exs → Bool
  | .nil => true
  | .cons e r => rE op e && rEs op r
end
mutual
def rS : Sm' → List Int → Int → Option (List Int × Int)
  | .lt true i e, op, nx => if rE sz pr op e = true ∧ i = nx then some (op ++ [i], nx + 1) else none
  | .lt false i e, op, nx => if rE sz pr op e = true ∧ i ∈ op then some (op, nx) else none
  | .put t a b, op, nx => if t < (sz : Int) ∧ rE sz pr op a = true ∧ rE sz pr op b = true then some (op, nx) else none
  | .ite c a b, op, nx => if rE sz pr op c = true then match rB a op nx with
      | some (_, n1) => match rB b op n1 with
        | some (_, n2) => some (op, n2)
        | none => none
      | none => none
    else none
  | .whl c b, op, nx => if rE sz pr op c = true then match rB b op nx with
      | some (_, n1) => some (op, n1)
      | none => none
    else none
  | .tell e, op, nx => if rE sz pr op e = true then some (op, nx) else none
  | .give e, op, nx => if g = true ∧ rE sz pr op e = true then some (op, nx) else none
  | .run f a, op, nx => if callOk pr f (encEs a).length = true ∧ rEs sz pr op a = true then some (op, nx) else none
def rB : Sms → List Int → Int → Option (List Int × Int)
  | .nil, op, nx => some (op, nx)
  | .cons s r, op, nx => match rS s op nx with
    | some (op', nx') => rB r op' nx'
    | none => none
end
end
theorem rEs_all (sz : Nat) (pr op : List Int) (p : W → Bool) : ∀ a : Exs, (∀ e, p (encE e) = rE sz pr op e) → (encEs a).all p = rEs sz pr op a
  | .nil, _ => by simp [encEs, rEs]
  | .cons e r, h => by
    rw [encEs, List.all_cons, h e, rEs_all sz pr op p r h, rEs]
/-! ### what is kept -/
/-- the first n objects are as they were -/
structure Kp (n : Nat) (st st' : Sto) : Prop where
  le : st.length ≤ st'.length
  eq : ∀ i, i < n → st'[i]? = st[i]?
theorem Kp.refl (n : Nat) (st : Sto) : Kp n st st := ⟨Nat.le_refl _, fun _ _ => rfl⟩
theorem Kp.trans {n : Nat} {a b c : Sto} (h : Kp n a b) (k : Kp n b c) : Kp n a c := ⟨Nat.le_trans h.le k.le, fun i hi => (k.eq i hi).trans (h.eq i hi)⟩
theorem Kp.set {n : Nat} {st : Sto} {i : Nat} {o : Ob} (h : n ≤ i) : Kp n st (st.set i o) := ⟨by simp, fun j hj => List.getElem?_set_ne (by omega)⟩
theorem Kp.app {n : Nat} {st : Sto} (h : n ≤ st.length) (T : Sto) : Kp n st (st ++ T) := ⟨by simp, fun j hj => List.getElem?_append_left (by omega)⟩
theorem Kp.mono {m n : Nat} {a b : Sto} (h : Kp n a b) (k : m ≤ n) : Kp m a b := ⟨h.le, fun i hi => h.eq i (by omega)⟩
theorem Kp.rd {n : Nat} {a b : Sto} (h : Kp n a b) {i : Nat} {o : Ob} (e : a[i]? = some o) (hi : i < n) : b[i]? = some o := (h.eq i hi).trans e
theorem isIn_intsR (x : Int) (ns : List Int) (st : Sto) {o : Nat} (h : st[o]? = some (.lst (ns.map W.int))) : isIn (.int x) (.ref o) st = some (decide (x ∈ ns)) := by
  have e := isIn_ints x ns st
  simp only [isIn, toPyS, h] at e ⊢
  exact e
theorem mIn_intsR (x : Int) (ns : List Int) (st : Sto) {o : Nat} (h : st[o]? = some (.lst (ns.map W.int))) : mIn (.int x) (.ref o) st = .ok (.bl (decide (x ∈ ns))) st := by
  simp only [mIn, isIn_intsR x ns st h]
end Gn

namespace Gn
open PySem L2 Mi
/-! ### what is a checked tree -/
def inRow (lo hi : Int) : W → Bool
  | .int i => decide (lo ≤ i ∧ i ≤ hi)
  | _ => false
def rngI (a : Int) : List Int := (List.range a.toNat).map fun k => (0 : Int) + (k : Nat)
theorem rngI_w (a : Int) : rngW 0 a.toNat = (rngI a).map W.int := by simp [rngW, rngI]
theorem rngI_len (a : Int) : (rngI a).length = a.toNat := by simp [rngI]
def shapeF (most : Int) : W → Bool
  | .tup [x, y, z] => inRow 0 most x && (isNumW y && bodyW (sh 12 true) z)
  | _ => false
/-- the rules hold for a function -/
def RuleF (sz : Nat) (pr : List Int) (g : Bool) (w : W) : Prop := ∃ (a b : Int) (ss : Sms) (op : List Int), w = .tup [.int a, .int b, .tup (encSs ss)] ∧ fineSs 12 ss ∧ rB sz pr g ss (rngI a) a = some (op, b)
def par : W → Int
  | .tup (.int a :: _) => a
  | _ => 0
theorem shapeF_ex {most : Int} {w : W} (h : shapeF most w = true) : ∃ (a b : Int) (ss : Sms), w = .tup [.int a, .int b, .tup (encSs ss)] ∧ fineSs 12 ss ∧ 0 ≤ a ∧ a ≤ most ∧ 0 ≤ b := by
  unfold shapeF at h
  split at h
  · rename_i x y z
    simp only [Bool.and_eq_true] at h
    obtain ⟨h1, h2, h3⟩ := h
    obtain ⟨b, rfl, hb⟩ := num_w h2
    obtain ⟨ss, rfl, hf⟩ := body_of (shS_ex 12) h3
    cases x <;> simp [inRow] at h1
    exact ⟨_, b, ss, rfl, hf, h1.1, h1.2, hb⟩
  · cases h
def shpW : W → Bool
  | .tup [.str s, .tup zs, .tup fs, mn] => decide (s = "checked") && ((decide (zs.length ≤ 8) && decide (fs.length ≤ 8)) && (zs.all (inRow 1 64) && (fs.all (shapeF 4) && shapeF 0 mn)))
  | _ => false
/-- what is a checked tree -/
def CheckedW (w : W) : Prop := ∃ (zs fs : List W) (mn : W), w = .tup [.str "checked", .tup zs, .tup fs, mn] ∧ shpW w = true ∧ (∀ j f, fs[j]? = some f → RuleF zs.length ((fs.take j).map par) true f) ∧ RuleF zs.length (fs.map par) false mn
end Gn

namespace Gn
open PySem L2 Mi
/-! ### the bag -/
def Bag3 (st : Sto) (i : Nat) : Prop := ∃ a b c : Int, st[i]? = some (.lst [.int a, .int b, .int c])
structure D3 (i : Nat) (st st' : Sto) : Prop where
  o : Only [i] st st'
  b : Bag3 st' i
theorem D3.refl {i : Nat} {st : Sto} (h : Bag3 st i) : D3 i st st := ⟨Only.refl _ _, h⟩
theorem D3.trans {i : Nat} {a b c : Sto} (h : D3 i a b) (k : D3 i b c) : D3 i a c := ⟨h.o.trans k.o (by intro j hj _; exact hj), k.b⟩
theorem D3.rd {i : Nat} {st st' : Sto} (h : D3 i st st') {k : Nat} {o : Ob} (e : st[k]? = some o) (n : k ≠ i) : st'[k]? = some o := h.o.rd e (by simpa using n)
theorem D3.set {i : Nat} {st : Sto} (hi : i < st.length) (a b c : Int) : D3 i st (st.set i (.lst [.int a, .int b, .int c])) := ⟨Only.set (A := [i]) (by simp), a, b, c, by simp [hi]⟩
theorem at30 {a b c : W} : atI [a, b, c] 0 = some a := rfl
theorem at31 {a b c : W} : atI [a, b, c] 1 = some b := rfl
theorem at32 {a b c : W} : atI [a, b, c] 2 = some c := rfl
theorem ix30 : ixN 3 0 = some 0 := rfl
theorem ix31 : ixN 3 1 = some 1 := rfl
theorem t_bag (ns : List Int) (k : Nat) (st : Sto) (hl : ns.length ≤ 63) : ∃ st', m_L_bag [.xst (ns.map W.int), .int (k : Int)] st = .ok (.ref st.length) st' ∧ Bag3 st' st.length ∧ Only [] st st' := by
  have p10 : (10 : Int) ^ (18 : Nat) = 1000000000000000000 := by decide
  have hz : ns.length ≤ 16777216 := by omega
  by_cases hk : k < ns.length
  · have hk' : (k : Int) < (ns.length : Int) := by omega
    have hat : atI (ns.map W.int) (k : Int) = some (.int ns[k]) := atI_nn (by omega) (by simp [hk])
    by_cases hc : 1000000000000000000 ≤ ns[k]
    · refine ⟨st ++ [.lst [.int ns[k], .int ns[k], .int k]], ?_, ⟨_, _, _, by simp; exact ⟨rfl, rfl, rfl⟩⟩, Only.app _ _ _⟩
      simp only [m_L_bag, b_L_bag]
      simp [hk', hat, hc, sizeLine_eq, hz]
    · refine ⟨st ++ [.lst [.int 0, .int ns[k], .int k]], ?_, ⟨_, _, _, by simp; exact ⟨rfl, rfl, rfl⟩⟩, Only.app _ _ _⟩
      simp only [m_L_bag, b_L_bag]
      simp [hk', hat, hc, sizeLine_eq, hz]
  · have hk' : ¬ (k : Int) < (ns.length : Int) := by omega
    refine ⟨st ++ [.lst [.int 0, .int 0, .int k]], ?_, ⟨_, _, _, by simp; exact ⟨rfl, rfl, rfl⟩⟩, Only.app _ _ _⟩
    simp only [m_L_bag, b_L_bag]
    simp [hk', sizeLine_eq, hz]
theorem t_draw (st : Sto) (i : Nat) (m : Int) (h : Bag3 st i) (h0 : 0 < m) (h1 : m < 18446744073709551616) :
    ∃ (r : Int) (st' : Sto), m_L_draw [.ref i, .int m] st = .ok (.int r) st' ∧ D3 i st st' ∧ 0 ≤ r ∧ r < m := by
  suffices hh : (m_L_draw [.ref i, .int m] st).post fun w st' => ∃ r : Int, w = .int r ∧ D3 i st st' ∧ 0 ≤ r ∧ r < m by
    obtain ⟨w, st', e, r, rfl, h1⟩ := hh.get
    exact ⟨r, st', e, h1⟩
  obtain ⟨a, b, c, h⟩ := h
  obtain ⟨hi, hg⟩ := List.getElem?_eq_some_iff.mp h
  have hs := lg h0 h1
  have q1 : ∀ x : Int, 0 ≤ x % m := fun x => Int.emod_nonneg _ (by omega)
  have q2 : ∀ x : Int, x % m < m := fun x => Int.emod_lt_of_pos _ h0
  have fin : ∀ x y z : Int, D3 i st (st.set i (.lst [.int x, .int y, .int z])) := fun x y z => D3.set hi x y z
  have h1m : ¬ m < 1 := by omega
  by_cases hz : a = 0
  · subst hz
    have hm2 : ((b * 48271 + c * 69621 + 11) % 2147483647).natAbs < 18446744073709551616 := by omega
    simp only [m_L_draw, b_L_draw]
    simp [hg, hi, at30, at31, at32, ix30, ix31, hm2, h1m, h0, hs, q1, q2, fin]
  · simp only [m_L_draw, b_L_draw]
    simp [hg, hi, at30, at31, at32, ix30, ix31, h1m, h0, hs, hz, q1, q2, fin]
/-! ### parts of rows -/
theorem cutTt (xs : List W) (h : Nat) : cutW xs none (some (h : Int)) = xs.take h := by
  have z := HT.sIx_nat xs.length xs.length h
  have z0 : HT.sIx xs.length 0 none = 0 := rfl
  unfold cutW
  rw [z, z0, List.drop_zero, Nat.sub_zero]
  by_cases hh : h ≤ xs.length
  · rw [Nat.min_eq_left hh]
  · rw [Nat.min_eq_right (by omega), List.take_length, List.take_of_length_le (by omega)]
theorem cutDd (xs : List W) (h : Nat) : cutW xs (some (h : Int)) none = xs.drop h := by
  have z := HT.sIx_nat xs.length 0 h
  have z0 : HT.sIx xs.length xs.length none = xs.length := rfl
  unfold cutW
  rw [z, z0]
  by_cases hh : h ≤ xs.length
  · rw [Nat.min_eq_left hh]
    exact List.take_of_length_le (by simp)
  · rw [Nat.min_eq_right (by omega), Nat.sub_self, List.take_zero, List.drop_of_length_le (by omega)]
theorem cutMm (xs : List W) (h k : Nat) : cutW xs (some (h : Int)) (some (k : Int)) = (xs.drop h).take (k - h) := by
  have z := HT.sIx_nat xs.length 0 h
  have z1 := HT.sIx_nat xs.length xs.length k
  unfold cutW
  rw [z, z1]
  by_cases hh : h ≤ xs.length
  · rw [Nat.min_eq_left hh]
    by_cases hk : k ≤ xs.length
    · rw [Nat.min_eq_left hk]
    · rw [Nat.min_eq_right (by omega), List.take_of_length_le (by simp), List.take_of_length_le (by simp; omega)]
  · have e1 : xs.drop h = [] := List.drop_of_length_le (by omega)
    have e2 : xs.drop (min h xs.length) = [] := List.drop_of_length_le (by omega)
    rw [e1, e2, List.take_nil, List.take_nil]
end Gn

namespace Gn
open PySem L2 Mi
/-! ### the values that are asked about -/
def strB : List Str := ["checked", "number", "slot", "at", "call", "input", "inputs", "not", "op", "and", "or"]
def strC : List Str := ["let", "set", "put", "if", "while", "tell", "give", "do", "=", "", "x"]
def strA : List Str := strB ++ strC ++ signs
def Pw (K : Nat) : Nat → W → Prop
  | _, .int i => -1000000 ≤ i ∧ i ≤ 1000000
  | _, .bl _ => True
  | _, .non => True
  | _, .str z => z ∈ strA
  | n + 1, .tup xs => xs.length ≤ K ∧ ∀ x ∈ xs, Pw K n x
  | n + 1, .lst xs => xs.length ≤ K ∧ ∀ x ∈ xs, Pw K n x
  | _, _ => False
theorem Pw.mono {K K' : Nat} (hK : K ≤ K') : ∀ {n n' : Nat} {w : W}, n ≤ n' → Pw K n w → Pw K' n' w := by
  intro n
  induction n with
  | zero =>
    intro n' w _ h
    cases w with
    | tup xs => cases h
    | lst xs => cases h
    | ref i => cases h
    | xst xs => cases h
    | _ => cases n' <;> first | trivial | exact h
  | succ n ih =>
    intro n' w hn h
    obtain ⟨m, rfl⟩ : ∃ m, n' = m + 1 := ⟨n' - 1, by omega⟩
    cases w with
    | tup xs => exact ⟨Nat.le_trans h.1 hK, fun x hx => ih (by omega) (h.2 x hx)⟩
    | lst xs => exact ⟨Nat.le_trans h.1 hK, fun x hx => ih (by omega) (h.2 x hx)⟩
    | ref i => cases h
    | xst xs => cases h
    | _ => first | trivial | exact h
theorem strA_ok : ∀ z ∈ strA, PyData.strOk z = true := by simp [strA, strB, strC, signs, or_imp, forall_and]
theorem Pw.py {K : Nat} : ∀ (n : Nat) (w : W), Pw K n w → ∃ d, toPy w = some d ∧ d.canLay0 = true ∧ d.depth ≤ n := by
  have lists : ∀ (n : Nat), (∀ w, Pw K n w → ∃ d, toPy w = some d ∧ d.canLay0 = true ∧ d.depth ≤ n) → ∀ xs : List W, (∀ x ∈ xs, Pw K n x) → ∃ ds, toPys xs = some ds ∧ PyData.canLayAll0 ds = true ∧ PyData.depthAll ds ≤ n := by
    intro n ih xs
    induction xs with
    | nil => intro _; exact ⟨[], rfl, by simp, by simp⟩
    | cons x xs h2 =>
      intro h
      obtain ⟨d, e1, e2, e3⟩ := ih x (h x (by simp))
      obtain ⟨ds, f1, f2, f3⟩ := h2 (fun y hy => h y (by simp [hy]))
      exact ⟨d :: ds, by simp [e1, f1], by simp [e2, f2], by simp; omega⟩
  intro n
  induction n with
  | zero =>
    intro w h
    cases w with
    | non => exact ⟨_, rfl, by simp, by simp⟩
    | bl b => exact ⟨_, rfl, by simp, by simp⟩
    | int i => exact ⟨_, rfl, by simp, by simp⟩
    | str x => exact ⟨_, rfl, by simpa using strA_ok x h, by simp⟩
    | _ => cases h
  | succ n ih =>
    intro w h
    cases w with
    | non => exact ⟨_, rfl, by simp, by simp⟩
    | bl b => exact ⟨_, rfl, by simp, by simp⟩
    | int i => exact ⟨_, rfl, by simp, by simp⟩
    | str x => exact ⟨_, rfl, by simpa using strA_ok x h, by simp⟩
    | tup xs =>
      obtain ⟨ds, e1, e2, e3⟩ := lists n ih xs h.2
      exact ⟨.tuple ds, by simp [e1], by simpa using e2, by simp; omega⟩
    | lst xs =>
      obtain ⟨ds, e1, e2, e3⟩ := lists n ih xs h.2
      exact ⟨.list ds, by simp [e1], by simpa using e2, by simp; omega⟩
    | _ => cases h
theorem Pw.pyS {K n : Nat} {w : W} (h : Pw K n w) (st : Sto) : toPyS w st = toPy w := by
  cases w with
  | ref i => cases n <;> cases h
  | _ => rfl
theorem Pw.sh {K n : Nat} (hn : n ≤ 60) {w : W} (h : Pw K n w) (st : Sto) : ∃ d, toPyS w st = some d ∧ SeqAt.shaped d = true := by
  obtain ⟨d, e1, e2, e3⟩ := Pw.py n w h
  exact ⟨d, by rw [h.pyS, e1], by simp [SeqAt.shaped, e2]; omega⟩
/-- a tuple against the empty one -/
theorem ne_nil {K n : Nat} (hn : n ≤ 60) {xs : List W} (h : Pw K n (.tup xs)) (st : Sto) : mNe (.tup xs) (.tup []) st = .ok (.bl (!xs.isEmpty)) st := by
  obtain ⟨d, e1, e2⟩ := h.sh hn st
  have e3 : toPyS (.tup []) st = some (.tuple []) := rfl
  have e4 : SeqAt.shaped (.tuple []) = true := by decide
  simp only [mNe, e1, e3, e2, e4, and_self, if_true]
  congr 3
  cases xs with
  | nil =>
    have : d = .tuple [] := by
      have := e1.symm.trans e3
      exact Option.some.inj this
    rw [this]; simp
  | cons x xs =>
    have e5 : toPyS (.tup (x :: xs)) st = (toPys (x :: xs)).map .tuple := rfl
    rw [e5] at e1
    simp only [toPys] at e1
    split at e1
    · simp at e1
      rw [← e1]
      simp [PyData.eqv]
    · cases e1
theorem ne_str {K n : Nat} (hn : n ≤ 60) {w : W} (h : Pw K n w) (z : Str) (hz : PyData.strOk z = true) (st : Sto) : ∃ b : Bool, mNe w (.str z) st = .ok (.bl b) st ∧ (b = false ↔ w = .str z) := by
  obtain ⟨d, e1, e2⟩ := h.sh hn st
  have e4 : SeqAt.shaped (.str z) = true := by simp [SeqAt.shaped, hz]
  have e3 : toPyS (.str z) st = some (.str z) := rfl
  refine ⟨!PyData.eqv d (.str z), by simp only [mNe, e1, e3, e2, e4, and_self, if_true], ?_⟩
  rw [h.pyS] at e1
  cases w with
  | tup xs => simp only [toPy, Option.map_eq_some_iff] at e1; obtain ⟨ds, -, rfl⟩ := e1; simp [PyData.eqv]
  | lst xs => simp only [toPy, Option.map_eq_some_iff] at e1; obtain ⟨ds, -, rfl⟩ := e1; simp [PyData.eqv]
  | xst xs => cases n <;> cases h
  | ref i => cases n <;> cases h
  | _ => simp only [toPy, Option.some.injEq] at e1; subst e1; simp [PyData.eqv]
/-! ### plain questions -/
def isTup : W → Bool
  | .tup _ => true
  | _ => false
section
variable {K n : Nat} {w : W} (h : Pw K n w) (st : Sto)
include h
theorem t_is_integer (lo hi : Int) : m_is_integer [w, .int lo, .int hi] st = .ok (.bl (inRow lo hi w)) st := by
  simp only [m_is_integer, b_is_integer]
  cases w with
  | int i =>
    by_cases h1 : lo ≤ i <;> by_cases h2 : i ≤ hi <;> simp [inRow, h1, h2]
  | ref i => cases n <;> cases h
  | _ => simp [inRow]
theorem t_is_number : m_is_number [w] st = .ok (.bl (isNumW w)) st := by
  simp only [m_is_number, b_is_number]
  cases w with
  | int i => simp [isNumW]
  | ref i => cases n <;> cases h
  | _ => simp [isNumW]
theorem t_is_word : m_is_word [w] st = .ok (.bl (isWordW w)) st := by
  have e : inRow 0 65535 w = isWordW w := by cases w <;> rfl
  have z := t_is_integer h st 0 65535
  rw [e] at z
  simp only [m_is_word, b_is_word]
  simp [z, w_MOST_WORD]
theorem t_is_list (hK : K ≤ 1000) (m : Nat) : m_is_list [w, .int (m : Int)] st = .ok (.bl (match w with | .tup xs => decide (xs.length ≤ m) | _ => false)) st := by
  simp only [m_is_list, b_is_list]
  cases w with
  | tup xs =>
    cases n with
    | zero => cases h
    | succ n =>
      have hz : xs.length ≤ 16777216 := by have := h.1; omega
      simp [sizeLine_eq, hz]
  | ref i => cases n <;> cases h
  | _ => simp
theorem t_is_row (hK : K ≤ 1000) (m : Nat) : m_is_row [w, .int (m : Int)] st = .ok (.bl (match w with | .tup xs => decide (xs.length = m) | _ => false)) st := by
  simp only [m_is_row, b_is_row]
  cases w with
  | tup xs =>
    cases n with
    | zero => cases h
    | succ n =>
      have hz : xs.length ≤ 16777216 := by have := h.1; omega
      simp [sizeLine_eq, hz]
      by_cases hm : xs.length = m
      · simp [hm]
      · simp [hm]
        omega
  | ref i => cases n <;> cases h
  | _ => simp
def startsStr : W → Bool
  | .tup (.str _ :: _) => true
  | _ => false
theorem t_starts (hn : n ≤ 60) : m_starts_with_string [w] st = .ok (.bl (startsStr w)) st := by
  simp only [m_starts_with_string, b_starts_with_string]
  cases w with
  | tup xs =>
    have e := ne_nil hn h st
    cases xs with
    | nil => simp [-mNe, e, startsStr, sizeLine_eq]
    | cons x xs =>
      have hx : atI (x :: xs) 0 = some x := by
        have := Mi.atI_nat (x :: xs) 0
        simpa using this
      cases n with
      | zero => cases h
      | succ n =>
        have hxp := h.2 x (by simp)
        cases x with
        | ref i => cases n <;> cases hxp
        | _ => simp [-mNe, e, startsStr, sizeLine_eq, hx]
  | ref i => cases n <;> cases h
  | _ => simp [startsStr]
theorem t_is_leaf (f : Str) (hf : PyData.strOk f = true) (hfl : f ∈ (["slot", "table", "function", "word", "sign"] : List Str)) : m_is_leaf [.str f, w] st = .ok (.bl (leafF f w)) st := by
  have e1 := t_is_number h st
  have e2 := t_is_word h st
  have e3 : ∀ z : Str, signW (.str z) = decide (z ∈ signs) := fun z => rfl
  simp only [m_is_leaf, b_is_leaf]
  simp only [List.mem_cons, List.not_mem_nil, or_false] at hfl
  rcases hfl with rfl | rfl | rfl | rfl | rfl
  · simp [leafF, e1, sizeLine_eq]
  · simp [leafF, e1, sizeLine_eq]
  · simp [leafF, e1, sizeLine_eq]
  · simp [leafF, e2, sizeLine_eq]
  · cases w with
    | str z => simp [leafF, signW, signs, w_SIGNS, sizeLine_eq, @eq_comm _ z]
    | ref i => cases n <;> cases h
    | _ => simp [leafF, signW, sizeLine_eq]
end
end Gn

namespace Gn
open PySem L2 Mi
theorem ifS_true {t : MT} {a b : MS} {s : Slo} {st st1 : Sto} {o : SO} (h : t s st = .ok true st1) (k : a s st1 = o) : mIfS t a b s st = o := by
  simp only [mIfS, h, Out.run, if_true, k]
theorem ifS_false {t : MT} {a b : MS} {s : Slo} {st st1 : Sto} {o : SO} (h : t s st = .ok false st1) (k : b s st1 = o) : mIfS t a b s st = o := by
  simp only [mIfS, h, Out.run, k]
  rfl
theorem cutA (xs : List W) (h : Nat) : cutW xs none (some (h : Int)) = xs.take h := by
  have z := HT.sIx_nat xs.length xs.length h
  have z0 : HT.sIx xs.length 0 none = 0 := rfl
  unfold cutW
  rw [z, z0, List.drop_zero, Nat.sub_zero]
  by_cases hh : h ≤ xs.length
  · rw [Nat.min_eq_left hh]
  · rw [Nat.min_eq_right (by omega), List.take_of_length_le (Nat.le_refl _), List.take_of_length_le (by omega)]
theorem cutB (xs : List W) (h : Nat) : cutW xs (some (h : Int)) none = xs.drop h := by
  have z := HT.sIx_nat xs.length 0 h
  have z0 : HT.sIx xs.length xs.length none = xs.length := rfl
  unfold cutW
  rw [z, z0]
  by_cases hh : h ≤ xs.length
  · rw [Nat.min_eq_left hh]; exact List.take_of_length_le (by simp)
  · rw [Nat.min_eq_right (by omega), List.drop_of_length_le (show xs.length ≤ h by omega)]; simp
end Gn

namespace Gn
open PySem L2 Mi
theorem lookE : ∀ z ∈ strA, lookT zt_EXPRESSIONS z = some ((formsE z).map fun fs => .tup (fs.map .str)) := by
  simp [strA, strB, strC, signs, or_imp, forall_and, zt_EXPRESSIONS, lookT_cons, formsE]
theorem lookS : ∀ z ∈ strA, lookT zt_STATEMENTS z = some ((formsS z).map fun fs => .tup (fs.map .str)) := by
  simp [strA, strB, strC, signs, or_imp, forall_and, zt_STATEMENTS, lookT_cons, formsS]
theorem zipW_nil (ys : List W) : zipW [] ys = [] := by simp [zipW]
theorem zipW_cons (x y : W) (xs ys : List W) : zipW (x :: xs) (y :: ys) = .tup [x, y] :: zipW xs ys := by
  unfold zipW
  rw [List.length_cons, List.length_cons, show min (xs.length + 1) (ys.length + 1) = min xs.length ys.length + 1 by omega, List.range_succ_eq_map, List.map_cons, List.map_map]
  rfl
theorem mem_zipW {w : W} : ∀ {xs ys : List W}, w ∈ zipW xs ys → ∃ x ∈ xs, ∃ y ∈ ys, w = .tup [x, y]
  | [], ys, h => by rw [zipW_nil] at h; cases h
  | x :: xs, [], h => by simp [zipW] at h
  | x :: xs, y :: ys, h => by
    rw [zipW_cons] at h
    rcases List.mem_cons.mp h with rfl | h
    · exact ⟨x, by simp, y, by simp, rfl⟩
    · obtain ⟨a, ha, b, hb, rfl⟩ := mem_zipW h
      exact ⟨a, by simp [ha], b, by simp [hb], rfl⟩
theorem zipW_len (xs ys : List W) : (zipW xs ys).length = min xs.length ys.length := by simp [zipW]
theorem bools_map {α : Type} (g : α → Bool) : ∀ xs : List α, boolsW (xs.map fun x => W.bl (g x)) = some (xs.map g)
  | [] => rfl
  | x :: xs => by simp [boolsW, bools_map g xs]
def zq (part : Str → W → Bool) : W → Bool
  | .tup [.str f, x] => part f x
  | _ => false
theorem zip_all (part : Str → W → Bool) : ∀ (fs : List Str) (xs : List W), ((zipW (fs.map W.str) xs).map (zq part)).all id = zipAll part fs xs
  | [], xs => by cases xs <;> simp [zipW_nil, zipAll]
  | f :: fs, [] => by simp [zipW, zipAll]
  | f :: fs, x :: xs => by
    rw [List.map_cons, zipW_cons, List.map_cons, List.all_cons, zip_all part fs xs]
    rfl
structure ShOk (K k : Nat) : Prop where
  e : ∀ n w st f, n ≤ 40 → Pw K n w → 3 * k + 2 ≤ f → m_is_expression f [w, .int (13 - (k : Int))] st = .ok (.bl (sh k false w)) st
  s : ∀ n w st f, n ≤ 40 → Pw K n w → 3 * k + 2 ≤ f → m_is_statement f [w, .int (13 - (k : Int))] st = .ok (.bl (sh k true w)) st
section
variable {K k : Nat} (hK : K ≤ 1000)
include hK
theorem Pw.sub {n : Nat} {xs : List W} (h : Pw K n (.tup xs)) : ∃ m, n = m + 1 ∧ xs.length ≤ 1000 ∧ ∀ x ∈ xs, Pw K m x := by
  cases n with
  | zero => cases h
  | succ n => exact ⟨n, rfl, by have := h.1; omega, h.2⟩
theorem all_comp {it : MI} {e : ME} {v : Nat} {s : Slo} {st : Sto} {ys : List W} (hi : it s st = .ok (.vals ys) st) (hl : ys.length ≤ 1000) (g : W → Bool) (he : ∀ y ∈ ys, e ((wipeW s [v]).set v (some y)) st = .ok (.bl (g y)) st) :
    mLc it (.nm v) mYes e [v] s st = .ok (.lst (ys.map fun y => W.bl (g y))) st := by
  have z := mLc_of (n := .nm v) (t := mYes) (e := e) (vs := [v]) hi (by omega) (fun _ => true) (fun y => .bl (g y)) (fun y hy => ⟨_, rfl, rfl, fun _ => he y hy⟩)
  rw [z]
  simp [List.filter_eq_self.mpr]
theorem body_ok (h : ShOk K k) {n : Nat} {w : W} (hn : n ≤ 40) (hw : Pw K n w) (st : Sto) {f : Nat} (hf : 3 * k + 3 ≤ f) : m_is_body f [w, .int (13 - (k : Int))] st = .ok (.bl (bodyW (sh k true) w)) st := by
  obtain ⟨f, rfl⟩ : ∃ g, f = g + 1 := ⟨f - 1, by omega⟩
  refine def_rt (n := 2) (k := 1) rfl ?_
  show b_is_body (R_is_body f 0) (R_is_body f 1) (R_is_body f 2) (R_is_body f 3) [some w, some (.int (13 - (k : Int))), none] st = _
  unfold b_is_body
  cases w with
  | tup xs =>
    obtain ⟨m, rfl, hl, hx⟩ := Pw.sub hK hw
    have z := all_comp hK (it := mITup (mVar 0)) (e := e0_is_body (R_is_body f 0) (R_is_body f 1) (R_is_body f 2) (R_is_body f 3)) (v := 2) (s := [some (.tup xs), some (.int (13 - (k : Int))), none]) (st := st) (ys := xs) (by simp) hl (sh k true) (fun y hy => by
      have := h.s m y st f (by omega) (hx y hy) (by omega)
      simp [e0_is_body, wipeW]
      exact this)
    simp [-mLc, z, bools_map, bodyW]
  | ref i => cases n <;> cases hw
  | _ => simp [bodyW]
theorem args_ok (h : ShOk K k) {n : Nat} {w : W} (hn : n ≤ 40) (hw : Pw K n w) (st : Sto) {f : Nat} (hf : 3 * k + 3 ≤ f) (r0 r1 r2 : MF) :
    (mAndV (mCall 2 m_is_list (mCons (mVar 1) (mCons (mC w_MOST_PARAMS) mNil))) (mCB mAll (mCons (mLc (mITup (mVar 1)) (.nm 3) mYes (e0_is_part r0 r1 r2 (R_is_body f 3)) [3]) mNil))) [some (.str "args"), some w, some (.int (13 - (k : Int))), none] st = .ok (.bl (argsW (sh k false) w)) st := by
  have e1 := t_is_list hw st hK 4
  have e1' : m_is_list [w, .int 4] st = _ := e1
  cases w with
  | tup xs =>
    obtain ⟨m, rfl, hl, hx⟩ := Pw.sub hK hw
    have z := all_comp hK (it := mITup (mVar 1)) (e := e0_is_part r0 r1 r2 (R_is_body f 3)) (v := 3) (s := [some (.str "args"), some (.tup xs), some (.int (13 - (k : Int))), none]) (st := st) (ys := xs) (by simp) hl (sh k false) (fun y hy => by
      have := h.e m y st f (by omega) (hx y hy) (by omega)
      simp [e0_is_part, wipeW]
      exact this)
    by_cases h4 : xs.length ≤ 4
    · simp [-mLc, z, bools_map, argsW, e1', w_MOST_PARAMS, h4]
    · simp [-mLc, argsW, e1', w_MOST_PARAMS, h4]
  | ref i => cases n <;> cases hw
  | _ => simp [-mLc, argsW, e1', w_MOST_PARAMS]
theorem part_ok (h : ShOk K k) {n : Nat} {w : W} (hn : n ≤ 40) (hw : Pw K n w) (st : Sto) {f : Nat} (hf : 3 * k + 4 ≤ f) (z : Str) (hz : z ∈ (["expression", "body", "args", "slot", "table", "function", "word", "sign"] : List Str)) :
    m_is_part f [.str z, w, .int (13 - (k : Int))] st = .ok (.bl (partW (sh k) z w)) st := by
  obtain ⟨f, rfl⟩ : ∃ g, f = g + 1 := ⟨f - 1, by omega⟩
  have e1 := h.e n w st f hn hw (by omega)
  have e2 := body_ok hK h hn hw st (f := f) (by omega)
  have e3 := args_ok hK h hn hw st (f := f) (by omega) (R_is_body f 0) (R_is_body f 1) (R_is_body f 2)
  refine def_rt (n := 3) (k := 1) rfl ?_
  show b_is_part (R_is_body f 0) (R_is_body f 1) (R_is_body f 2) (R_is_body f 3) [some (.str z), some w, some (.int (13 - (k : Int))), none] st = _
  unfold b_is_part
  have leaf : ∀ z ∈ (["slot", "table", "function", "word", "sign"] : List Str), m_is_leaf [.str z, w] st = .ok (.bl (leafF z w)) st := fun z hz => t_is_leaf hw st z (by
    simp only [List.mem_cons, List.not_mem_nil, or_false] at hz
    rcases hz with rfl | rfl | rfl | rfl | rfl <;> simp) hz
  simp only [List.mem_cons, List.not_mem_nil, or_false] at hz
  rcases hz with rfl | rfl | rfl | rfl | rfl | rfl | rfl | rfl
  · refine seq_rt (ifS_true (st1 := st) (by simp) ?_)
    simp [e1, partW]
  · refine seq_nx (ifS_false (st1 := st) (by simp) rfl) (seq_rt (ifS_true (st1 := st) (by simp) ?_))
    simp [e2, partW]
  · refine seq_nx (ifS_false (st1 := st) (by simp) rfl) (seq_nx (ifS_false (st1 := st) (by simp) rfl) (seq_rt (ifS_true (st1 := st) (by simp) ?_)))
    simp only [mRet, e3, Out.run]
    simp [partW]
  all_goals
    refine seq_nx (ifS_false (st1 := st) (by simp) rfl) (seq_nx (ifS_false (st1 := st) (by simp) rfl) (seq_nx (ifS_false (st1 := st) (by simp) rfl) ?_))
    simp [leaf, partW]
theorem sh_zero : ShOk K 0 := by
  constructor
  · intro n w st f hn hw hf
    obtain ⟨f, rfl⟩ : ∃ g, f = g + 1 := ⟨f - 1, by omega⟩
    refine def_rt (n := 2) (k := 3) rfl ?_
    show b_is_expression (R_is_body f 0) (R_is_body f 1) (R_is_body f 2) (R_is_body f 3) [some w, some (.int (13 - ((0 : Nat) : Int))), none, none, none] st = _
    unfold b_is_expression
    refine seq_rt (ifS_true (st1 := st) (by simp [w_MOST_NESTED]) ?_)
    simp [sh]
  · intro n w st f hn hw hf
    obtain ⟨f, rfl⟩ : ∃ g, f = g + 1 := ⟨f - 1, by omega⟩
    refine def_rt (n := 2) (k := 3) rfl ?_
    show b_is_statement (R_is_body f 0) (R_is_body f 1) (R_is_body f 2) (R_is_body f 3) [some w, some (.int (13 - ((0 : Nat) : Int))), none, none, none] st = _
    unfold b_is_statement
    refine seq_rt (ifS_true (st1 := st) (by simp [w_MOST_NESTED]) ?_)
    simp [sh]
end
theorem formsE_mem {s : Str} {fs : List Str} (h : formsE s = some fs) : ∀ f ∈ fs, f ∈ (["expression", "body", "args", "slot", "table", "function", "word", "sign"] : List Str) := by
  rcases formsE_cases h with ⟨rfl, rfl⟩ | ⟨rfl, rfl⟩ | ⟨rfl, rfl⟩ | ⟨rfl, rfl⟩ | ⟨rfl, rfl⟩ | ⟨rfl, rfl⟩ | ⟨rfl, rfl⟩ | ⟨rfl, rfl⟩ | ⟨rfl, rfl⟩ | ⟨rfl, rfl⟩ <;> simp
theorem formsS_mem {s : Str} {fs : List Str} (h : formsS s = some fs) : ∀ f ∈ fs, f ∈ (["expression", "body", "args", "slot", "table", "function", "word", "sign"] : List Str) := by
  rcases formsS_cases h with ⟨rfl, rfl⟩ | ⟨rfl, rfl⟩ | ⟨rfl, rfl⟩ | ⟨rfl, rfl⟩ | ⟨rfl, rfl⟩ | ⟨rfl, rfl⟩ | ⟨rfl, rfl⟩ | ⟨rfl, rfl⟩ <;> simp
theorem formsE_len {s : Str} {fs : List Str} (h : formsE s = some fs) : fs.length ≤ 3 := by
  rcases formsE_cases h with ⟨rfl, rfl⟩ | ⟨rfl, rfl⟩ | ⟨rfl, rfl⟩ | ⟨rfl, rfl⟩ | ⟨rfl, rfl⟩ | ⟨rfl, rfl⟩ | ⟨rfl, rfl⟩ | ⟨rfl, rfl⟩ | ⟨rfl, rfl⟩ | ⟨rfl, rfl⟩ <;> simp
theorem formsS_len {s : Str} {fs : List Str} (h : formsS s = some fs) : fs.length ≤ 3 := by
  rcases formsS_cases h with ⟨rfl, rfl⟩ | ⟨rfl, rfl⟩ | ⟨rfl, rfl⟩ | ⟨rfl, rfl⟩ | ⟨rfl, rfl⟩ | ⟨rfl, rfl⟩ | ⟨rfl, rfl⟩ | ⟨rfl, rfl⟩ <;> simp
section
variable {K k : Nat} (hK : K ≤ 1000)
include hK
/-- the comprehension over the parts -/
theorem zip_comp {e : ME} {s : Slo} {st : Sto} {fs : List Str} {xs : List W} {x : W} {part : Str → W → Bool} (hl : xs.length ≤ 1000) (hfl : fs.length ≤ 3) {d : W} (hs : s = [some (.tup (x :: xs)), some d, some (.tup (fs.map W.str)), none, none])
    (he : ∀ f ∈ fs, ∀ y ∈ xs, e [some (.tup (x :: xs)), some d, some (.tup (fs.map W.str)), some (.str f), some y] st = .ok (.bl (part f y)) st) :
    mLc (mIZip (mCons (mVar 2) (mCons (mSl (mVar 0) (mPart (mC (W.int 1))) mNoPart) mNil))) (.tp [(.nm 3), (.nm 4)]) mYes e [3, 4] s st = .ok (.lst ((zipW (fs.map W.str) xs).map fun y => W.bl (zq part y))) st := by
  subst hs
  have c1 : cutW (x :: xs) (some 1) none = xs := by
    have := cutB (x :: xs) 1
    simpa using this
  have z := mLc_of (it := mIZip (mCons (mVar 2) (mCons (mSl (mVar 0) (mPart (mC (W.int 1))) mNoPart) mNil))) (n := .tp [(.nm 3), (.nm 4)]) (t := mYes) (e := e) (vs := [3, 4]) (s := [some (.tup (x :: xs)), some d, some (.tup (fs.map W.str)), none, none]) (st := st) (st1 := st) (ws := zipW (fs.map W.str) xs)
    (by simp [c1]) (by rw [zipW_len]; simp; omega) (fun _ => true) (fun y => .bl (zq part y)) (fun y hy => by
      obtain ⟨a, ha, b, hb, rfl⟩ := mem_zipW hy
      obtain ⟨f, hf, rfl⟩ := List.mem_map.mp ha
      exact ⟨[some (.tup (x :: xs)), some d, some (.tup (fs.map W.str)), some (.str f), some b], rfl, rfl, fun _ => he f hf b hb⟩)
  rw [z]
  simp [List.filter_eq_self.mpr]
theorem sh_succ (hk : k ≤ 12) (h : ShOk K k) : ShOk K (k + 1) := by
  have hd : (13 - ((k + 1 : Nat) : Int)) + 1 = 13 - (k : Int) := by omega
  have hd2 : ¬ 12 < (13 - ((k + 1 : Nat) : Int)) := by omega
  constructor
  · intro n w st f hn hw hf
    obtain ⟨f, rfl⟩ : ∃ g, f = g + 1 := ⟨f - 1, by omega⟩
    have es := t_starts hw st (by omega)
    generalize (13 - ((k + 1 : Nat) : Int)) = D at *
    refine def_rt (n := 2) (k := 3) rfl ?_
    show b_is_expression (R_is_body f 0) (R_is_body f 1) (R_is_body f 2) (R_is_body f 3) [some w, some (.int D), none, none, none] st = _
    unfold b_is_expression
    by_cases hst : startsStr w = true
    · obtain ⟨s, xs, rfl⟩ : ∃ s xs, w = .tup (.str s :: xs) := by
        unfold startsStr at hst
        split at hst
        · exact ⟨_, _, rfl⟩
        · cases hst
      obtain ⟨m, rfl, hl, hx⟩ := Pw.sub hK hw
      rw [hst] at es
      have hsA : s ∈ strA := by
        have := hx (.str s) (by simp)
        cases m <;> exact this
      have lk := lookE s hsA
      have at0 : atI (W.str s :: xs) 0 = some (.str s) := by have := Mi.atI_nat (W.str s :: xs) 0; simpa using this
      have hz : xs.length + 1 ≤ 16777216 := by simp at hl; omega
      cases hfm : formsE s with
      | none =>
        rw [hfm] at lk
        refine seq_rt (ifS_true (st1 := st) (by simp [w_MOST_NESTED, hd2, es, at0, lk]) ?_)
        simp [sh, nodeW, hfm]
      | some fs =>
        rw [hfm] at lk
        have hfl := formsE_len hfm
        have hmem := formsE_mem hfm
        refine seq_nx (ifS_false (st1 := st) (by simp [w_MOST_NESTED, hd2, es, at0, lk]) rfl) ?_
        refine seq_nx (s1 := [some (.tup (.str s :: xs)), some (.int D), some (.tup (fs.map W.str)), none, none]) (st1 := st) (by simp [at0, lk]) ?_
        have hfz : fs.length ≤ 16777216 := by omega
        by_cases hlen : xs.length = fs.length
        · have z := zip_comp hK (e := e0_is_expression (R_is_body f 0) (R_is_body f 1) (R_is_body f 2) (R_is_body f 3)) (st := st) (fs := fs) (xs := xs) (x := .str s) (part := partW (sh k)) (d := .int D) (by simp at hl; omega) hfl rfl (fun g hg y hy => by
            have := part_ok hK h (n := m) (w := y) (by omega) (hx y (by simp [hy])) st (f := f) (by omega) g (hmem g hg)
            simp [e0_is_expression, hd]
            exact this)
          have hb := bools_map (zq (partW (sh k))) (zipW (fs.map W.str) xs)
          have za := zip_all (partW (sh k)) fs xs
          have hle : ((xs.length : Int) + 1 = (fs.length : Int) + 1) := by omega
          simp [-mLc, z, hb, sizeLine_eq, hz, hfz, hlen, sh, nodeW, hfm]
          have za' : (zipW (fs.map W.str) xs).all (zq (partW (sh k))) = zipAll (partW (sh k)) fs xs := by rw [← za, List.all_map]; rfl
          simpa using za'
        · have hle : ¬ ((xs.length : Int) + 1 = (fs.length : Int) + 1) := by omega
          have hle2 : ¬ ((xs.length : Int) = (fs.length : Int)) := by omega
          simp [-mLc, sizeLine_eq, hz, hfz, hlen, hle2, sh, nodeW, hfm]
    · have hsf : startsStr w = false := by simpa using hst
      rw [hsf] at es
      refine seq_rt (ifS_true (st1 := st) (by simp [w_MOST_NESTED, hd2, es]) ?_)
      have : sh (k + 1) false w = false := by
        unfold sh nodeW
        split
        · simp [startsStr] at hsf
        · rfl
      simp [this]
  · intro n w st f hn hw hf
    obtain ⟨f, rfl⟩ : ∃ g, f = g + 1 := ⟨f - 1, by omega⟩
    have es := t_starts hw st (by omega)
    generalize (13 - ((k + 1 : Nat) : Int)) = D at *
    refine def_rt (n := 2) (k := 3) rfl ?_
    show b_is_statement (R_is_body f 0) (R_is_body f 1) (R_is_body f 2) (R_is_body f 3) [some w, some (.int D), none, none, none] st = _
    unfold b_is_statement
    by_cases hst : startsStr w = true
    · obtain ⟨s, xs, rfl⟩ : ∃ s xs, w = .tup (.str s :: xs) := by
        unfold startsStr at hst
        split at hst
        · exact ⟨_, _, rfl⟩
        · cases hst
      obtain ⟨m, rfl, hl, hx⟩ := Pw.sub hK hw
      rw [hst] at es
      have hsA : s ∈ strA := by
        have := hx (.str s) (by simp)
        cases m <;> exact this
      have lk := lookS s hsA
      have at0 : atI (W.str s :: xs) 0 = some (.str s) := by have := Mi.atI_nat (W.str s :: xs) 0; simpa using this
      have hz : xs.length + 1 ≤ 16777216 := by simp at hl; omega
      cases hfm : formsS s with
      | none =>
        rw [hfm] at lk
        refine seq_rt (ifS_true (st1 := st) (by simp [w_MOST_NESTED, hd2, es, at0, lk]) ?_)
        simp [sh, nodeW, hfm]
      | some fs =>
        rw [hfm] at lk
        have hfl := formsS_len hfm
        have hmem := formsS_mem hfm
        refine seq_nx (ifS_false (st1 := st) (by simp [w_MOST_NESTED, hd2, es, at0, lk]) rfl) ?_
        refine seq_nx (s1 := [some (.tup (.str s :: xs)), some (.int D), some (.tup (fs.map W.str)), none, none]) (st1 := st) (by simp [at0, lk]) ?_
        have hfz : fs.length ≤ 16777216 := by omega
        by_cases hlen : xs.length = fs.length
        · have z := zip_comp hK (e := e0_is_statement (R_is_body f 0) (R_is_body f 1) (R_is_body f 2) (R_is_body f 3)) (st := st) (fs := fs) (xs := xs) (x := .str s) (part := partW (sh k)) (d := .int D) (by simp at hl; omega) hfl rfl (fun g hg y hy => by
            have := part_ok hK h (n := m) (w := y) (by omega) (hx y (by simp [hy])) st (f := f) (by omega) g (hmem g hg)
            simp [e0_is_statement, hd]
            exact this)
          have hb := bools_map (zq (partW (sh k))) (zipW (fs.map W.str) xs)
          have za := zip_all (partW (sh k)) fs xs
          simp [-mLc, z, hb, sizeLine_eq, hz, hfz, hlen, sh, nodeW, hfm]
          have za' : (zipW (fs.map W.str) xs).all (zq (partW (sh k))) = zipAll (partW (sh k)) fs xs := by rw [← za, List.all_map]; rfl
          simpa using za'
        · have hle2 : ¬ ((xs.length : Int) = (fs.length : Int)) := by omega
          simp [-mLc, sizeLine_eq, hz, hfz, hlen, hle2, sh, nodeW, hfm]
    · have hsf : startsStr w = false := by simpa using hst
      rw [hsf] at es
      refine seq_rt (ifS_true (st1 := st) (by simp [w_MOST_NESTED, hd2, es]) ?_)
      have : sh (k + 1) true w = false := by
        unfold sh nodeW
        split
        · simp [startsStr] at hsf
        · rfl
      simp [this]
theorem sh_ok : ∀ k, k ≤ 13 → ShOk K k
  | 0, _ => sh_zero hK
  | k + 1, h => sh_succ hK (by omega) (sh_ok k (by omega))
end
end Gn

namespace Gn
open PySem L2 Mi
/-! ### loops over known values, by recursion over the list -/
def runL (g : MG) (body : MS) : List W → Slo → Sto → SO
  | [], s, st => .nx s st
  | w :: ws, s, st => match g w s st with
    | some (s1, st1) => match body s1 st1 with
      | .nx s2 st2 => runL g body ws s2 st2
      | .ct s2 st2 => runL g body ws s2 st2
      | .bk s2 st2 => .nx s2 st2
      | o => o
    | none => .stuck
theorem loop_runL_at {g : MG} {body : MS} {ws : List W} : ∀ (k i : Nat) (s : Slo) (st : Sto), i + k = ws.length → mLoop (.vals ws) g body k i s st = runL g body (ws.drop i) s st
  | 0, i, s, st, e => by
    have e' : i = ws.length := by omega
    subst e'
    simp [mLoop, Src.fine, runL]
  | k + 1, i, s, st, e => by
    have hi : i < ws.length := by omega
    rw [List.drop_eq_getElem_cons hi, runL]
    simp only [mLoop, Src.fine, if_true, Src.at, List.getElem?_eq_getElem hi]
    have ih := fun s st => loop_runL_at (g := g) (body := body) (ws := ws) k (i + 1) s st (by omega)
    cases g ws[i] s st with
    | none => rfl
    | some p =>
      obtain ⟨s1, st1⟩ := p
      simp only []
      cases body s1 st1 <;> simp only [ih]
theorem mFor_runL {it : MI} {g : MG} {b : MS} {s : Slo} {st st1 : Sto} {ws : List W} {o : SO} (h : it s st = .ok (.vals ws) st1) (k : runL g b ws s st1 = o) : mFor it g b s st = o := by
  simp only [mFor, h, Out.run, Src.len_vals]
  rw [loop_runL_at _ _ _ _ (by omega), List.drop_zero, k]
/-- a comprehension over known values whose items may change the store -/
def lcR (g : MG) (t : MT) (e : ME) (s : Slo) : List W → Sto → Out (List W)
  | [], st => .ok [] st
  | w :: ws, st => match g w s st with
    | some (s2, st1) => match t s2 st1 with
      | .ok true st2 => match e s2 st2 with
        | .ok y st3 => match lcR g t e s ws st3 with
          | .ok ys st4 => .ok (y :: ys) st4
          | _ => .stuck
        | _ => .stuck
      | .ok false st2 => lcR g t e s ws st2
      | _ => .stuck
    | none => .stuck
theorem lc_lcR_at {g : MG} {t : MT} {e : ME} {s : Slo} {ws : List W} {st' : Sto} : ∀ (k i : Nat) (acc zs : List W) (st : Sto), i + k = ws.length → acc.length + k ≤ sizeLine → lcR g t e s (ws.drop i) st = .ok zs st' → mLcLoop (.vals ws) g t e s k i acc st = .ok (acc ++ zs) st'
  | 0, i, acc, zs, st, h1, h2, h => by
    have e' : i = ws.length := by omega
    subst e'
    rw [List.drop_length, lcR] at h
    cases h
    simp [mLcLoop, Src.fine]
  | k + 1, i, acc, zs, st, h1, h2, h => by
    have hi : i < ws.length := by omega
    rw [List.drop_eq_getElem_cons hi, lcR] at h
    simp only [mLcLoop, Src.fine, if_true, Src.at, List.getElem?_eq_getElem hi]
    split at h
    · rename_i s2 st1 eg
      try simp only [eg]
      split at h
      · rename_i st2 et
        try simp only [et]
        split at h
        · rename_i y st3 ee
          try simp only [ee]
          split at h
          · rename_i us st4 er
            cases h
            rw [if_pos (by omega), lc_lcR_at k (i + 1) (acc ++ [y]) us st3 (by omega) (by simp; omega) er]
            simp
          · cases h
        · cases h
      · rename_i st2 et
        try simp only [et]
        exact lc_lcR_at k (i + 1) acc zs st2 (by omega) (by omega) h
      · cases h
    · cases h
theorem mLc_lcR {it : MI} {n : NT} {t : MT} {e : ME} {vs : List Nat} {s : Slo} {st st1 st2 : Sto} {ws ys : List W} (hi : it s st = .ok (.vals ws) st1) (hl : ws.length ≤ 1000000) (h : lcR (NT.m n) t e (wipeW s vs) ws st1 = .ok ys st2) : mLc it n t e vs s st = .ok (.lst ys) st2 := by
  simp only [mLc, hi, Out.bind, Src.len_vals, lc_lcR_at (ws := ws) ws.length 0 [] ys st1 (by omega) (by rw [sizeLine_eq]; simp; omega) (by rw [List.drop_zero]; exact h), List.nil_append]
end Gn

namespace Gn
open PySem L2 Mi
/-! ### the law's judge of shapes -/
def lawS : List (Str × Str) := [("let", "nx"), ("set", "nx"), ("put", "nxx"), ("if", "xbb"), ("while", "xb"), ("tell", "x"), ("give", "x"), ("do", "na")]
def lawE : List (Str × Str) := [("number", "w"), ("slot", "n"), ("at", "nx"), ("call", "na"), ("input", "x"), ("inputs", ""), ("not", "x"), ("op", "sxx"), ("and", "xx"), ("or", "xx")]
def rowW (p : Str × Str) : W := .tup [.str p.1, .str p.2]
theorem shape_run (z : Str) (hz : PyData.strOk z = true) (x1 x2 : Option W) (st : Sto) : ∀ (R : List (Str × Str)) (x3 x4 : Option W), (∀ p ∈ R, PyData.strOk p.1 = true) →
    (∃ s, R.find? (fun p => decide (p.1 = z)) = none ∧ runL (mGTup 2 (mGCons (mGN 3) (mGCons (mGN 4) mGNil))) l0_L_shape (R.map rowW) [some (.str z), x1, x2, x3, x4] st = .nx s st) ∨
    (∃ p, R.find? (fun p => decide (p.1 = z)) = some p ∧ runL (mGTup 2 (mGCons (mGN 3) (mGCons (mGN 4) mGNil))) l0_L_shape (R.map rowW) [some (.str z), x1, x2, x3, x4] st = .rt (.str p.2) st)
  | [], x3, x4, _ => .inl ⟨_, rfl, rfl⟩
  | p :: R, x3, x4, h => by
    have hp := h p (by simp)
    have ih := shape_run z hz x1 x2 st R (some (.str p.1)) (some (.str p.2)) (fun q hq => h q (by simp [hq]))
    by_cases e : p.1 = z
    · refine .inr ⟨p, by simp [e], ?_⟩
      simp [runL, rowW, l0_L_shape, hz, e]
    · have e1 : runL (mGTup 2 (mGCons (mGN 3) (mGCons (mGN 4) mGNil))) l0_L_shape ((p :: R).map rowW) [some (.str z), x1, x2, x3, x4] st = runL (mGTup 2 (mGCons (mGN 3) (mGCons (mGN 4) mGNil))) l0_L_shape (R.map rowW) [some (.str z), x1, x2, some (.str p.1), some (.str p.2)] st := by
        simp [runL, rowW, l0_L_shape, hz, hp, e]
      have e2 : (p :: R).find? (fun p => decide (p.1 = z)) = R.find? (fun p => decide (p.1 = z)) := by simp [e]
      rw [e1, e2]
      exact ih
def shapeOf (b : Bool) (z : Str) : W := match (if b then lawS else lawE).find? (fun p => decide (p.1 = z)) with
  | some p => .str p.2
  | none => .non
theorem t_shape {z : Str} (hz : z ∈ strA) (b : Bool) (st : Sto) : m_L_shape [.str z, .bl b] st = .ok (shapeOf b z) st := by
  have hzo := strA_ok z hz
  refine def_rt (n := 2) (k := 3) rfl ?_
  show b_L_shape [some (.str z), some (.bl b), none, none, none] st = _
  unfold b_L_shape
  cases b with
  | true =>
    refine seq_nx (s1 := [some (.str z), some (.bl true), some (.lst (lawS.map rowW)), none, none]) (st1 := st) (by simp [lawS, rowW, sizeLine_eq]) ?_
    refine seq_nx (ifS_false (st1 := st) (by simp) rfl) ?_
    rcases shape_run z hzo (some (.bl true)) (some (.lst (lawS.map rowW))) st lawS none none (by simp [lawS]) with ⟨s, h1, h2⟩ | ⟨p, h1, h2⟩
    · refine seq_nx (mFor_runL (ws := lawS.map rowW) (st1 := st) (by simp) h2) ?_
      simp [shapeOf, h1]
    · refine seq_rt (st1 := st) ?_
      rw [mFor_runL (ws := lawS.map rowW) (st1 := st) (by simp) h2]
      simp [shapeOf, h1]
  | false =>
    refine seq_nx (s1 := [some (.str z), some (.bl false), some (.lst (lawS.map rowW)), none, none]) (st1 := st) (by simp [lawS, rowW, sizeLine_eq]) ?_
    refine seq_nx (s1 := [some (.str z), some (.bl false), some (.lst (lawE.map rowW)), none, none]) (st1 := st) (ifS_true (st1 := st) (by simp) (by simp [lawE, rowW, sizeLine_eq])) ?_
    rcases shape_run z hzo (some (.bl false)) (some (.lst (lawE.map rowW))) st lawE none none (by simp [lawE]) with ⟨s, h1, h2⟩ | ⟨p, h1, h2⟩
    · refine seq_nx (mFor_runL (ws := lawE.map rowW) (st1 := st) (by simp) h2) ?_
      simp [shapeOf, h1]
    · refine seq_rt (st1 := st) ?_
      rw [mFor_runL (ws := lawE.map rowW) (st1 := st) (by simp) h2]
      simp [shapeOf, h1]
theorem lay_bools : ∀ bs : List Bool, toPys (bs.map W.bl) = some (bs.map PyData.bool) ∧ PyData.canLayAll0 (bs.map PyData.bool) = true ∧ PyData.depthAll (bs.map PyData.bool) = 0
  | [] => ⟨rfl, by simp, by simp⟩
  | b :: bs => by
    obtain ⟨h1, h2, h3⟩ := lay_bools bs
    exact ⟨by simp [toPys, h1], by simp [h2], by simp [h3]⟩
theorem isIn_false (bs : List Bool) (st : Sto) : isIn (.bl false) (.lst (bs.map W.bl)) st = some (!bs.all id) := by
  obtain ⟨h1, h2, h3⟩ := lay_bools bs
  have h4 : ((bs.map PyData.bool).any fun z => PyData.eqv z (.bool false)) = !bs.all id := by
    induction bs with
    | nil => rfl
    | cons b bs ih =>
      obtain ⟨i1, i2, i3⟩ := lay_bools bs
      rw [List.map_cons, List.any_cons, ih i1 i2 i3]
      cases b <;> simp
  simp only [isIn, toPyS, toPy, h1, Option.map_some]
  have s1 : SeqAt.shaped (.bool false) = true := rfl
  have s2 : SeqAt.shaped (.list (bs.map PyData.bool)) = true := by simp [SeqAt.shaped, h2, h3]
  simp only [s1, s2, and_self, if_true, h4]
theorem notin_false (bs : List Bool) (st : Sto) : mNotIn (.bl false) (.lst (bs.map W.bl)) st = .ok (.bl (bs.all id)) st := by
  simp only [mNotIn, isIn_false, Bool.not_not]
theorem in_false (bs : List Bool) (st : Sto) : mIn (.bl false) (.lst (bs.map W.bl)) st = .ok (.bl (!bs.all id)) st := by
  simp only [mIn, isIn_false]
theorem t_l_is_int {K n : Nat} {w : W} (h : Pw K n w) (st : Sto) (lo hi : Int) : m_L_is_int [w, .int lo, .int hi] st = .ok (.bl (inRow lo hi w)) st := by
  simp only [m_L_is_int, b_L_is_int]
  cases w with
  | int i =>
    by_cases h1 : lo ≤ i <;> by_cases h2 : i ≤ hi <;> simp [inRow, h1, h2]
  | ref i => cases n <;> cases h
  | _ => simp [inRow]
structure LwOk (K k : Nat) : Prop where
  nd : ∀ n w st f b, n ≤ 40 → Pw K n w → 2 * k + 1 ≤ f → m_L_is_node f [w, .int (13 - (k : Int)), .bl b] st = .ok (.bl (sh k b w)) st
/-- a part by its letter -/
def partL (k : Nat) (c : Str) (w : W) : Bool :=
  if c = "x" then sh k false w else if c = "b" then bodyW (sh k true) w else if c = "a" then argsW (sh k false) w else if c = "n" then isNumW w else if c = "w" then isWordW w else signW w
section
variable {K k : Nat} (hK : K ≤ 1000)
include hK
theorem lpart_ok (h : LwOk K k) {n : Nat} {w : W} (hn : n ≤ 40) (hw : Pw K n w) (st : Sto) {f : Nat} (hf : 2 * k + 2 ≤ f) (c : Str) (hc : c ∈ (["x", "b", "a", "n", "w", "s"] : List Str)) :
    m_L_is_part f [.str c, w, .int (13 - (k : Int))] st = .ok (.bl (partL k c w)) st := by
  obtain ⟨f, rfl⟩ : ∃ g, f = g + 1 := ⟨f - 1, by omega⟩
  refine def_rt (n := 3) (k := 1) rfl ?_
  show b_L_is_part (R_L_is_part f 0) (R_L_is_part f 1) [some (.str c), some w, some (.int (13 - (k : Int))), none] st = _
  unfold b_L_is_part
  have p10 : (10 : Int) ^ (9 : Nat) = 1000000000 := by decide
  simp only [List.mem_cons, List.not_mem_nil, or_false] at hc
  rcases hc with rfl | rfl | rfl | rfl | rfl | rfl
  · have e := h.nd n w st f false hn hw (by omega)
    refine seq_rt (ifS_true (st1 := st) (by simp) ?_)
    simp [partL]
    rw [show (R_L_is_part f 1) [w, W.int (13 - ↑k), W.bl false] st = _ from e]
  · refine seq_nx (ifS_false (st1 := st) (by simp) rfl) ?_
    refine seq_rt (ifS_true (st1 := st) (by simp) ?_)
    cases w with
    | tup xs =>
      obtain ⟨m, rfl, hl, hx⟩ := Pw.sub hK hw
      refine seq_nx (ifS_false (st1 := st) (by simp) rfl) ?_
      have z := all_comp hK (it := mITup (mVar 1)) (e := e0_L_is_part (R_L_is_part f 0) (R_L_is_part f 1)) (v := 3) (s := [some (.str "b"), some (.tup xs), some (.int (13 - (k : Int))), none]) (st := st) (ys := xs) (by simp) hl (sh k true) (fun y hy => by
        have := h.nd m y st f true (by omega) (hx y hy) (by omega)
        simp [e0_L_is_part, wipeW]
        rw [show (R_L_is_part f 1) [y, W.int (13 - ↑k), W.bl true] st = _ from this])
      have nf := notin_false (xs.map (sh k true)) st
      rw [List.map_map] at nf
      have nf' : mNotIn (.bl false) (.lst (xs.map fun y => W.bl (sh k true y))) st = .ok (.bl ((xs.map (sh k true)).all id)) st := nf
      simp [-mLc, -mNotIn, z, nf', partL, bodyW]
    | ref i => cases n <;> cases hw
    | _ =>
      refine seq_rt (ifS_true (st1 := st) (by simp) ?_)
      simp [partL, bodyW]
  · refine seq_nx (ifS_false (st1 := st) (by simp) rfl) ?_
    refine seq_rt (ifS_true (st1 := st) (by simp) ?_)
    cases w with
    | tup xs =>
      obtain ⟨m, rfl, hl, hx⟩ := Pw.sub hK hw
      have hz : xs.length ≤ 16777216 := by omega
      by_cases h4 : xs.length ≤ 4
      · have h4' : (xs.length : Int) ≤ 4 := by omega
        refine seq_nx (ifS_false (st1 := st) (by simp [sizeLine_eq, hz, h4']) rfl) ?_
        have z := all_comp hK (it := mITup (mVar 1)) (e := e0_L_is_part (R_L_is_part f 0) (R_L_is_part f 1)) (v := 3) (s := [some (.str "a"), some (.tup xs), some (.int (13 - (k : Int))), none]) (st := st) (ys := xs) (by simp) hl (sh k false) (fun y hy => by
          have := h.nd m y st f false (by omega) (hx y hy) (by omega)
          simp [e0_L_is_part, wipeW]
          rw [show (R_L_is_part f 1) [y, W.int (13 - ↑k), W.bl false] st = _ from this])
        have nf := notin_false (xs.map (sh k false)) st
        rw [List.map_map] at nf
        have nf' : mNotIn (.bl false) (.lst (xs.map fun y => W.bl (sh k false y))) st = .ok (.bl ((xs.map (sh k false)).all id)) st := nf
        simp [-mLc, -mNotIn, z, nf', partL, argsW, h4]
      · have h4' : (4 : Int) < (xs.length : Int) := by omega
        refine seq_rt (ifS_true (st1 := st) (by simp [sizeLine_eq, hz]; omega) ?_)
        simp [partL, argsW, h4]
    | ref i => cases n <;> cases hw
    | _ =>
      refine seq_rt (ifS_true (st1 := st) (by simp) ?_)
      simp [partL, argsW]
  · have e := t_l_is_int hw st 0 1000000000
    have e2 : inRow 0 1000000000 w = isNumW w := by
      cases w with
      | int i =>
        have hb : -1000000 ≤ i ∧ i ≤ 1000000 := by cases n <;> exact hw
        simp [inRow, isNumW]
        omega
      | _ => rfl
    rw [e2] at e
    refine seq_nx (ifS_false (st1 := st) (by simp) rfl) (seq_nx (ifS_false (st1 := st) (by simp) rfl) (seq_rt (ifS_true (st1 := st) (by simp) ?_)))
    simp [partL, p10, e]
  · have e := t_l_is_int hw st 0 65535
    have e2 : inRow 0 65535 w = isWordW w := by cases w <;> rfl
    rw [e2] at e
    refine seq_nx (ifS_false (st1 := st) (by simp) rfl) (seq_nx (ifS_false (st1 := st) (by simp) rfl) (seq_nx (ifS_false (st1 := st) (by simp) rfl) (seq_rt (ifS_true (st1 := st) (by simp) ?_))))
    simp [partL, e]
  · refine seq_nx (ifS_false (st1 := st) (by simp) rfl) (seq_nx (ifS_false (st1 := st) (by simp) rfl) (seq_nx (ifS_false (st1 := st) (by simp) rfl) (seq_nx (ifS_false (st1 := st) (by simp) rfl) ?_)))
    cases w with
    | str z =>
      have hzo : PyData.strOk z = true := strA_ok z (by cases n <;> exact hw)
      simp [partL, signW, signs, hzo, sizeLine_eq, @eq_comm _ z]
    | ref i => cases n <;> cases hw
    | _ => simp [partL, signW, sizeLine_eq]
end
theorem cps_nx : (Str.ofString "nx").cps = #[110, 120] := by decide +kernel
theorem ln_nx : (Str.ofString "nx").length = 2 := by decide +kernel
theorem cps_nxx : (Str.ofString "nxx").cps = #[110, 120, 120] := by decide +kernel
theorem ln_nxx : (Str.ofString "nxx").length = 3 := by decide +kernel
theorem cps_xbb : (Str.ofString "xbb").cps = #[120, 98, 98] := by decide +kernel
theorem ln_xbb : (Str.ofString "xbb").length = 3 := by decide +kernel
theorem cps_xb : (Str.ofString "xb").cps = #[120, 98] := by decide +kernel
theorem ln_xb : (Str.ofString "xb").length = 2 := by decide +kernel
theorem cps_x : (Str.ofString "x").cps = #[120] := by decide +kernel
theorem ln_x : (Str.ofString "x").length = 1 := by decide +kernel
theorem cps_na : (Str.ofString "na").cps = #[110, 97] := by decide +kernel
theorem ln_na : (Str.ofString "na").length = 2 := by decide +kernel
theorem cps_w : (Str.ofString "w").cps = #[119] := by decide +kernel
theorem ln_w : (Str.ofString "w").length = 1 := by decide +kernel
theorem cps_n : (Str.ofString "n").cps = #[110] := by decide +kernel
theorem ln_n : (Str.ofString "n").length = 1 := by decide +kernel
theorem cps_0 : (Str.ofString "").cps = #[] := by decide +kernel
theorem ln_0 : (Str.ofString "").length = 0 := by decide +kernel
theorem cps_sxx : (Str.ofString "sxx").cps = #[115, 120, 120] := by decide +kernel
theorem ln_sxx : (Str.ofString "sxx").length = 3 := by decide +kernel
theorem cps_xx : (Str.ofString "xx").cps = #[120, 120] := by decide +kernel
theorem ln_xx : (Str.ofString "xx").length = 2 := by decide +kernel
theorem ch_x : (⟨#[120]⟩ : Str) = Str.ofString "x" := by decide +kernel
theorem ch_b : (⟨#[98]⟩ : Str) = Str.ofString "b" := by decide +kernel
theorem ch_a : (⟨#[97]⟩ : Str) = Str.ofString "a" := by decide +kernel
theorem ch_n : (⟨#[110]⟩ : Str) = Str.ofString "n" := by decide +kernel
theorem ch_w : (⟨#[119]⟩ : Str) = Str.ofString "w" := by decide +kernel
theorem ch_s : (⟨#[115]⟩ : Str) = Str.ofString "s" := by decide +kernel
structure Lets (s : Str) (ls : List Str) : Prop where
  len : s.length = ls.length
  le : ls.length ≤ 3
  ix : ∀ (i : Nat) (st : Sto), i < ls.length → mIx (.str s) (.int (i : Int)) st = .ok (.str (ls.getD i "")) st
theorem lt1 {i : Nat} (h : i < 1) : i = 0 := by omega
theorem lt2 {i : Nat} (h : i < 2) : i = 0 ∨ i = 1 := by omega
theorem lt3 {i : Nat} (h : i < 3) : i = 0 ∨ i = 1 ∨ i = 2 := by omega
theorem ix_str {s : Str} {cs : Array Nat} {i : Nat} {c : Nat} {z : Str} (st : Sto) (h : s.cps = cs) (hl : s.length ≤ 3) (hi : cs[i]? = some c) (hz : (⟨#[c]⟩ : Str) = z) : mIx (.str s) (.int (i : Int)) st = .ok (.str z) st := by
  subst hz
  subst h
  have hl2 : s.length ≤ sizeLine := by rw [sizeLine_eq]; omega
  have ha : atI s.cps.toList (i : Int) = some c := by rw [Mi.atI_nat]; simpa using hi
  simp only [mIx, hl2, if_true, ha]
theorem lets_nx : Lets "nx" (["n", "x"] : List Str) := by
  refine ⟨ln_nx, by simp, fun i st h => ?_⟩
  rcases lt2 h with rfl | rfl
  · exact ix_str st cps_nx (by rw [ln_nx]; omega) rfl ch_n
  · exact ix_str st cps_nx (by rw [ln_nx]; omega) rfl ch_x
theorem lets_nxx : Lets "nxx" (["n", "x", "x"] : List Str) := by
  refine ⟨ln_nxx, by simp, fun i st h => ?_⟩
  rcases lt3 h with rfl | rfl | rfl
  · exact ix_str st cps_nxx (by rw [ln_nxx]; omega) rfl ch_n
  · exact ix_str st cps_nxx (by rw [ln_nxx]; omega) rfl ch_x
  · exact ix_str st cps_nxx (by rw [ln_nxx]; omega) rfl ch_x
theorem lets_xbb : Lets "xbb" (["x", "b", "b"] : List Str) := by
  refine ⟨ln_xbb, by simp, fun i st h => ?_⟩
  rcases lt3 h with rfl | rfl | rfl
  · exact ix_str st cps_xbb (by rw [ln_xbb]; omega) rfl ch_x
  · exact ix_str st cps_xbb (by rw [ln_xbb]; omega) rfl ch_b
  · exact ix_str st cps_xbb (by rw [ln_xbb]; omega) rfl ch_b
theorem lets_xb : Lets "xb" (["x", "b"] : List Str) := by
  refine ⟨ln_xb, by simp, fun i st h => ?_⟩
  rcases lt2 h with rfl | rfl
  · exact ix_str st cps_xb (by rw [ln_xb]; omega) rfl ch_x
  · exact ix_str st cps_xb (by rw [ln_xb]; omega) rfl ch_b
theorem lets_x : Lets "x" (["x"] : List Str) := by
  refine ⟨ln_x, by simp, fun i st h => ?_⟩
  obtain rfl := lt1 h
  exact ix_str st cps_x (by rw [ln_x]; omega) rfl ch_x
theorem lets_na : Lets "na" (["n", "a"] : List Str) := by
  refine ⟨ln_na, by simp, fun i st h => ?_⟩
  rcases lt2 h with rfl | rfl
  · exact ix_str st cps_na (by rw [ln_na]; omega) rfl ch_n
  · exact ix_str st cps_na (by rw [ln_na]; omega) rfl ch_a
theorem lets_w : Lets "w" (["w"] : List Str) := by
  refine ⟨ln_w, by simp, fun i st h => ?_⟩
  obtain rfl := lt1 h
  exact ix_str st cps_w (by rw [ln_w]; omega) rfl ch_w
theorem lets_n : Lets "n" (["n"] : List Str) := by
  refine ⟨ln_n, by simp, fun i st h => ?_⟩
  obtain rfl := lt1 h
  exact ix_str st cps_n (by rw [ln_n]; omega) rfl ch_n
theorem lets_0 : Lets "" ([] : List Str) := by
  refine ⟨ln_0, by simp, fun i st h => ?_⟩
  simp at h
theorem lets_sxx : Lets "sxx" (["s", "x", "x"] : List Str) := by
  refine ⟨ln_sxx, by simp, fun i st h => ?_⟩
  rcases lt3 h with rfl | rfl | rfl
  · exact ix_str st cps_sxx (by rw [ln_sxx]; omega) rfl ch_s
  · exact ix_str st cps_sxx (by rw [ln_sxx]; omega) rfl ch_x
  · exact ix_str st cps_sxx (by rw [ln_sxx]; omega) rfl ch_x
theorem lets_xx : Lets "xx" (["x", "x"] : List Str) := by
  refine ⟨ln_xx, by simp, fun i st h => ?_⟩
  rcases lt2 h with rfl | rfl
  · exact ix_str st cps_xx (by rw [ln_xx]; omega) rfl ch_x
  · exact ix_str st cps_xx (by rw [ln_xx]; omega) rfl ch_x
def letter (f : Str) : Str := if f = "expression" then "x" else if f = "body" then "b" else if f = "args" then "a" else if f = "word" then "w" else if f = "sign" then "s" else "n"
theorem shape_tab {z : Str} (b : Bool) : ((if b then formsS else formsE) z = none ∧ shapeOf b z = .non) ∨ ∃ fs s, (if b then formsS else formsE) z = some fs ∧ shapeOf b z = .str s ∧ Lets s (fs.map letter) ∧ ∀ f ∈ fs, f ∈ (["expression", "body", "args", "slot", "table", "function", "word", "sign"] : List Str) := by
  cases b with
  | true =>
    simp only [if_true]
    cases h : formsS z with
    | none =>
      refine .inl ⟨rfl, ?_⟩
      unfold formsS at h
      repeat (split at h; · cases h)
      simp [shapeOf, lawS, *, eq_comm]
    | some fs =>
      refine .inr ⟨fs, ?_⟩
      have hm := formsS_mem h
      rcases formsS_cases h with ⟨rfl, rfl⟩ | ⟨rfl, rfl⟩ | ⟨rfl, rfl⟩ | ⟨rfl, rfl⟩ | ⟨rfl, rfl⟩ | ⟨rfl, rfl⟩ | ⟨rfl, rfl⟩ | ⟨rfl, rfl⟩
      · exact ⟨_, rfl, by simp [shapeOf, lawS]; rfl, by simpa [letter] using lets_nx, hm⟩
      · exact ⟨_, rfl, by simp [shapeOf, lawS]; rfl, by simpa [letter] using lets_nx, hm⟩
      · exact ⟨_, rfl, by simp [shapeOf, lawS]; rfl, by simpa [letter] using lets_nxx, hm⟩
      · exact ⟨_, rfl, by simp [shapeOf, lawS]; rfl, by simpa [letter] using lets_xbb, hm⟩
      · exact ⟨_, rfl, by simp [shapeOf, lawS]; rfl, by simpa [letter] using lets_xb, hm⟩
      · exact ⟨_, rfl, by simp [shapeOf, lawS]; rfl, by simpa [letter] using lets_x, hm⟩
      · exact ⟨_, rfl, by simp [shapeOf, lawS]; rfl, by simpa [letter] using lets_x, hm⟩
      · exact ⟨_, rfl, by simp [shapeOf, lawS]; rfl, by simpa [letter] using lets_na, hm⟩
  | false =>
    simp only [Bool.false_eq_true, if_false]
    cases h : formsE z with
    | none =>
      refine .inl ⟨rfl, ?_⟩
      unfold formsE at h
      repeat (split at h; · cases h)
      simp [shapeOf, lawE, *, eq_comm]
    | some fs =>
      refine .inr ⟨fs, ?_⟩
      have hm := formsE_mem h
      rcases formsE_cases h with ⟨rfl, rfl⟩ | ⟨rfl, rfl⟩ | ⟨rfl, rfl⟩ | ⟨rfl, rfl⟩ | ⟨rfl, rfl⟩ | ⟨rfl, rfl⟩ | ⟨rfl, rfl⟩ | ⟨rfl, rfl⟩ | ⟨rfl, rfl⟩ | ⟨rfl, rfl⟩
      · exact ⟨_, rfl, by simp [shapeOf, lawE]; rfl, by simpa [letter] using lets_w, hm⟩
      · exact ⟨_, rfl, by simp [shapeOf, lawE]; rfl, by simpa [letter] using lets_n, hm⟩
      · exact ⟨_, rfl, by simp [shapeOf, lawE]; rfl, by simpa [letter] using lets_nx, hm⟩
      · exact ⟨_, rfl, by simp [shapeOf, lawE]; rfl, by simpa [letter] using lets_na, hm⟩
      · exact ⟨_, rfl, by simp [shapeOf, lawE]; rfl, by simpa [letter] using lets_x, hm⟩
      · exact ⟨_, rfl, by simp [shapeOf, lawE]; rfl, by simpa [letter] using lets_0, hm⟩
      · exact ⟨_, rfl, by simp [shapeOf, lawE]; rfl, by simpa [letter] using lets_x, hm⟩
      · exact ⟨_, rfl, by simp [shapeOf, lawE]; rfl, by simpa [letter] using lets_sxx, hm⟩
      · exact ⟨_, rfl, by simp [shapeOf, lawE]; rfl, by simpa [letter] using lets_xx, hm⟩
      · exact ⟨_, rfl, by simp [shapeOf, lawE]; rfl, by simpa [letter] using lets_xx, hm⟩
theorem partL_eq (k : Nat) {f : Str} (hf : f ∈ (["expression", "body", "args", "slot", "table", "function", "word", "sign"] : List Str)) (w : W) : partL k (letter f) w = partW (sh k) f w := by
  simp only [List.mem_cons, List.not_mem_nil, or_false] at hf
  rcases hf with rfl | rfl | rfl | rfl | rfl | rfl | rfl | rfl <;> simp [partL, letter, partW, leafF]
theorem letter_mem {f : Str} (hf : f ∈ (["expression", "body", "args", "slot", "table", "function", "word", "sign"] : List Str)) : letter f ∈ (["x", "b", "a", "n", "w", "s"] : List Str) := by
  simp only [List.mem_cons, List.not_mem_nil, or_false] at hf
  rcases hf with rfl | rfl | rfl | rfl | rfl | rfl | rfl | rfl <;> simp [letter]
theorem rng_zip (g : Str → W → Bool) : ∀ (fs : List Str) (xs : List W), xs.length = fs.length → ((List.range fs.length).map fun i => g (fs.getD i "") (xs.getD i .non)).all id = zipAll g fs xs
  | [], xs, _ => by simp [zipAll]
  | f :: fs, [], h => by simp at h
  | f :: fs, x :: xs, h => by
    have ih := rng_zip g fs xs (by simpa using h)
    rw [List.length_cons, List.range_succ_eq_map, List.map_cons, List.map_map, List.all_cons, zipAll, ← ih]
    rfl
theorem zipAll_congr {g g' : Str → W → Bool} : ∀ (fs : List Str) (xs : List W), (∀ f ∈ fs, ∀ x, g f x = g' f x) → zipAll g fs xs = zipAll g' fs xs
  | [], _, _ => by simp [zipAll]
  | f :: fs, [], _ => by simp [zipAll]
  | f :: fs, x :: xs, h => by rw [zipAll, zipAll, h f (by simp), zipAll_congr fs xs fun q hq => h q (by simp [hq])]
theorem zipAll_map (g : Str → W → Bool) (l : Str → Str) : ∀ (fs : List Str) (xs : List W), zipAll g (fs.map l) xs = zipAll (fun f => g (l f)) fs xs
  | [], _ => by simp [zipAll]
  | f :: fs, [] => by simp [zipAll]
  | f :: fs, x :: xs => by rw [List.map_cons, zipAll, zipAll, zipAll_map g l fs xs]
section
variable {K k : Nat} (hK : K ≤ 1000)
include hK
theorem lw_step (hk : k ≤ 12) (h : LwOk K k) : LwOk K (k + 1) := by
  constructor
  intro n w st f b hn hw hf
  have hd : (13 - ((k + 1 : Nat) : Int)) + 1 = 13 - (k : Int) := by omega
  have hd2 : ¬ 12 < (13 - ((k + 1 : Nat) : Int)) := by omega
  obtain ⟨f, rfl⟩ : ∃ g, f = g + 1 := ⟨f - 1, by omega⟩
  generalize (13 - ((k + 1 : Nat) : Int)) = D at *
  refine def_rt (n := 3) (k := 2) rfl ?_
  show b_L_is_node (R_L_is_part f 0) (R_L_is_part f 1) [some w, some (.int D), some (.bl b), none, none] st = _
  unfold b_L_is_node
  by_cases hst : startsStr w = true
  · obtain ⟨s, xs, rfl⟩ : ∃ s xs, w = .tup (.str s :: xs) := by
      unfold startsStr at hst
      split at hst
      · exact ⟨_, _, rfl⟩
      · cases hst
    obtain ⟨m, rfl, hl, hx⟩ := Pw.sub hK hw
    have hsA : s ∈ strA := by
      have := hx (.str s) (by simp)
      cases m <;> exact this
    have at0 : atI (W.str s :: xs) 0 = some (.str s) := by have := Mi.atI_nat (W.str s :: xs) 0; simpa using this
    have hz : xs.length + 1 ≤ 16777216 := by simp at hl; omega
    have hne : ¬ ((xs.length : Int) + 1 = 0) := by omega
    refine seq_nx (ifS_false (st1 := st) (by simp [hd2, sizeLine_eq, hz, hne, at0]) rfl) ?_
    have es := t_shape hsA b st
    refine seq_nx (s1 := [some (.tup (.str s :: xs)), some (.int D), some (.bl b), some (shapeOf b s), none]) (st1 := st) (by simp [at0, es]) ?_
    rcases shape_tab (z := s) b with ⟨h1, h2⟩ | ⟨fs, sp, h1, h2, h3, h4⟩
    · rw [h2]
      refine seq_rt (ifS_true (st1 := st) (by simp) ?_)
      simp [sh, nodeW, h1]
    · rw [h2]
      have hsl : sp.length = fs.length := by have := h3.len; simpa using this
      have hfl : fs.length ≤ 3 := by have := h3.le; simpa using this
      by_cases hlen : xs.length = fs.length
      · refine seq_nx (ifS_false (st1 := st) (by simp [sizeLine_eq, hz, hlen, hsl, show fs.length ≤ 16777216 by omega]) rfl) ?_
        have z := mLc_of (it := mIRng1 (mCons (mCB mLen (mCons (mVar 3) mNil)) mNil)) (n := .nm 4) (t := mYes) (e := e0_L_is_node (R_L_is_part f 0) (R_L_is_part f 1)) (vs := [4]) (s := [some (.tup (.str s :: xs)), some (.int D), some (.bl b), some (.str sp), none]) (st := st) (st1 := st) (ws := rngW 0 fs.length)
          (rng1_nat (by simp [sizeLine_eq, hsl, show fs.length ≤ 16777216 by omega]) (by omega)) (by simp; omega) (fun _ => true) (fun y => match y with | .int i => .bl (partL k ((fs.map letter).getD i.toNat "") (xs.getD i.toNat .non)) | _ => .non) (fun y hy => by
            obtain ⟨i, hi, rfl⟩ := mem_rng0 hy
            refine ⟨[some (.tup (.str s :: xs)), some (.int D), some (.bl b), some (.str sp), some (.int (i : Int))], rfl, rfl, fun _ => ?_⟩
            have hix := h3.ix i st (by simpa using hi)
            have hgx : xs.getD i .non ∈ xs := by
              have : xs.getD i .non = xs[i]'(by omega) := by simp [List.getD, show i < xs.length by omega]
              rw [this]; exact List.getElem_mem _
            have hlt : (fs.map letter).getD i "" = letter (fs[i]'hi) := by simp [List.getD, hi]
            have ep := lpart_ok hK h (n := m) (w := xs.getD i .non) (by omega) (hx _ (List.mem_cons_of_mem _ hgx)) st (f := f) (by omega) (letter (fs[i]'hi)) (letter_mem (h4 _ (List.getElem_mem _)))
            have hat : atI (W.str s :: xs) ((i : Int) + 1) = some (xs.getD i .non) := by
              have := Mi.atI_nat (W.str s :: xs) (i + 1)
              rw [show ((i : Int) + 1) = ((i + 1 : Nat) : Int) by omega, this]
              simp [List.getD, show i < xs.length by omega]
            rw [hlt] at hix
            simp only [Int.toNat_natCast, hlt]
            simp [-mIx, e0_L_is_node, mOp, hix, hd]
            simp only [mIx, hat]
            simp
            exact ep)
        have hall : (((rngW 0 fs.length).filter (fun _ => true)).map (fun y : W => match y with | .int i => W.bl (partL k ((fs.map letter).getD i.toNat "") (xs.getD i.toNat .non)) | _ => .non)) = ((List.range fs.length).map fun i => partL k ((fs.map letter).getD i "") (xs.getD i .non)).map W.bl := by
          simp [List.filter_eq_self.mpr, rngW]
        rw [hall] at z
        have nf := notin_false ((List.range fs.length).map fun i => partL k ((fs.map letter).getD i "") (xs.getD i .non)) st
        have hr := rng_zip (partL k) (fs.map letter) xs (by simpa using hlen)
        rw [List.length_map] at hr
        rw [hr, zipAll_map, zipAll_congr fs xs (g' := partW (sh k)) fun g hg x => partL_eq k (h4 g hg) x] at nf
        generalize ((List.range fs.length).map fun i => partL k ((fs.map letter).getD i "") (xs.getD i .non)) = L at z nf
        simp [-mLc, -mNotIn, z, nf, sh, nodeW, h1, hlen]
      · have hle : ¬ ((xs.length : Int) + 1 = (sp.length : Int) + 1) := by omega
        have hle2 : ¬ ((xs.length : Int) = (sp.length : Int)) := by omega
        refine seq_rt (ifS_true (st1 := st) (by simp [sizeLine_eq, hz, hsl, show fs.length ≤ 16777216 by omega]; omega) ?_)
        simp [sh, nodeW, h1, hlen]
  · have hsf : startsStr w = false := by simpa using hst
    have hs : sh (k + 1) b w = false := by
      unfold sh nodeW
      split
      · simp [startsStr] at hsf
      · rfl
    have fin : ∀ t : MT, t [some w, some (.int D), some (.bl b), none, none] st = .ok true st → ∀ rest : MS, mSeq (mIfS t (mRet (mC (W.bl false))) mSkip) rest [some w, some (.int D), some (.bl b), none, none] st = .rt (.bl (sh (k + 1) b w)) st := fun t ht rest => by
      refine seq_rt (ifS_true (st1 := st) ht ?_)
      rw [hs]; simp
    refine fin _ ?_ _
    cases w with
    | tup xs =>
      obtain ⟨m, rfl, hl, hx⟩ := Pw.sub hK hw
      cases xs with
      | nil => simp [hd2, sizeLine_eq]
      | cons x xs =>
        have at0 : atI (x :: xs) 0 = some x := by have := Mi.atI_nat (x :: xs) 0; simpa using this
        have hz : xs.length + 1 ≤ 16777216 := by simp at hl; omega
        have hne : ¬ ((xs.length : Int) + 1 = 0) := by omega
        have hxp := hx x (by simp)
        cases x with
        | str z => simp [startsStr] at hsf
        | ref i => cases m <;> cases hxp
        | _ => simp [hd2, sizeLine_eq, hz, hne, at0]
    | ref i => cases n <;> cases hw
    | _ => simp [hd2]
theorem lw_zero : LwOk K 0 := by
  constructor
  intro n w st f b hn hw hf
  obtain ⟨f, rfl⟩ : ∃ g, f = g + 1 := ⟨f - 1, by omega⟩
  refine def_rt (n := 3) (k := 2) rfl ?_
  show b_L_is_node (R_L_is_part f 0) (R_L_is_part f 1) [some w, some (.int (13 - ((0 : Nat) : Int))), some (.bl b), none, none] st = _
  unfold b_L_is_node
  refine seq_rt (ifS_true (st1 := st) (by simp) ?_)
  simp [sh]
theorem lw_ok : ∀ k, k ≤ 13 → LwOk K k
  | 0, _ => lw_zero hK
  | k + 1, h => lw_step hK (by omega) (lw_ok k (by omega))
end
end Gn

namespace Gn
open PySem L2 Mi
/-! ### the program's rules -/
abbrev ruF (szW : W) (pr : List Int) (g : Bool) (nx : Int) (o : Nat) (fw : W) : Fl := [("_sizes", szW), ("_params", .lst (pr.map W.int)), ("_may_give", .bl g), ("_next", .int nx), ("_open", .ref o), ("_function", fw)]
structure RuAt (B R sz : Nat) (pr : List Int) (g : Bool) (fw : W) (op : List Int) (nx : Int) (st : Sto) : Prop where
  ex : ∃ (o : Nat) (zs : List W), st[R]? = some (.ins 9 (ruF (.tup zs) pr g nx o fw)) ∧ st[o]? = some (.lst (op.map W.int)) ∧ zs.length = sz ∧ B ≤ o
  bR : B ≤ R
  sz8 : sz ≤ 1000
  pr8 : pr.length ≤ 1000
  ol : (op.length : Int) ≤ nx
  nl : nx ≤ 1000001
theorem atI0 (x : W) (xs : List W) : atI (x :: xs) 0 = some x := by have := Mi.atI_nat (x :: xs) 0; simpa using this
def exBools (P : Ex → Bool) : Exs → List Bool
  | .nil => []
  | .cons e r => P e :: exBools P r
theorem exBools_all (sz : Nat) (pr op : List Int) : ∀ a : Exs, (exBools (rE sz pr op) a).all id = rEs sz pr op a
  | .nil => by simp [exBools, rEs]
  | .cons e r => by rw [exBools, List.all_cons, exBools_all sz pr op r, rEs]; rfl
theorem lcR_exs {e : ME} {s : Slo} {st : Sto} {v k : Nat} (P : Ex → Bool) : ∀ a : Exs, fineEs k a → (∀ x, fineE k x → e (s.set v (some (encE x))) st = .ok (.bl (P x)) st) → lcR (NT.m (.nm v)) mYes e s (encEs a) st = .ok ((exBools P a).map W.bl) st
  | .nil, _, _ => rfl
  | .cons x r, hf, h => by
    rw [fineEs] at hf
    have h1 := h x hf.1
    have h2 := lcR_exs P r hf.2 h
    have hm : NT.m (.nm v) (encE x) s st = some (s.set v (some (encE x)), st) := rfl
    rw [encEs]
    simp only [lcR, hm, mYes, h1, h2, exBools, List.map_cons]
theorem lcR_cons {v : Nat} {e : ME} {s : Slo} {y b : W} {ys bs : List W} {st st1 st2 : Sto} (h1 : e (s.set v (some y)) st = .ok b st1) (h2 : lcR (NT.m (.nm v)) mYes e s ys st1 = .ok bs st2) : lcR (NT.m (.nm v)) mYes e s (y :: ys) st = .ok (b :: bs) st2 := by
  have hm : NT.m (.nm v) y s st = some (s.set v (some y), st) := rfl
  simp only [lcR, hm, mYes, h1, h2]
theorem mAll_bl (bs : List Bool) (st : Sto) : mAll [.lst (bs.map W.bl)] st = .ok (.bl (bs.all id)) st := by
  have := bools_map id bs
  simp only [id] at this
  have h2 : (bs.map fun x => W.bl x) = bs.map W.bl := rfl
  rw [h2] at this
  simp only [mAll, asL, this, List.map_id_fun', List.map_id, id]
section
variable {B R sz : Nat} {pr : List Int} {g : Bool} {fw : W} {op : List Int} {nx : Int} {st : Sto}
theorem pr_at {f : Int} (h0 : 0 ≤ f) (h1 : f < (pr.length : Int)) : atI (pr.map W.int) f = some (.int (pr.getD f.toNat 0)) := by
  refine atI_nn h0 ?_
  rw [List.getElem?_map, List.getElem?_eq_getElem (by omega)]
  simp [List.getD, show f.toNat < pr.length by omega]
theorem t_called_of (h : RuAt B R sz pr g fw op nx st) (k f : Nat) (ih' : ∀ e, fineE k e → m_Rules_value f [.ref R, encE e] st = .ok (.bl (rE sz pr op e)) st) (fn : Int) (a : Exs) (h0 : 0 ≤ fn) (hl4 : (encEs a).length ≤ 4) (ha : fineEs k a) :
    R_Rules_value (f + 1) 1 [.ref R, .int fn, .tup (encEs a)] st = .ok (.bl (callOk pr fn (encEs a).length && rEs sz pr op a)) st := by
  obtain ⟨o, zs, hR, hO, hz, hB⟩ := h.ex
  refine def_rt (n := 3) (k := 1) rfl ?_
  show b_Rules_called (R_Rules_value f 0) (R_Rules_value f 1) [some (.ref R), some (.int fn), some (.tup (encEs a)), none] st = _
  unfold b_Rules_called
  have hp8 := h.pr8
  have hlz : (encEs a).length ≤ 16777216 := by omega
  by_cases hfn : fn < (pr.length : Int)
  · have hat := pr_at h0 hfn
    have hnge : ¬ ((pr.length : Int) ≤ fn) := by omega
    by_cases hpc : pr.getD fn.toNat 0 = ((encEs a).length : Int)
    · have ne1 := mNe_ii ((encEs a).length : Int) (pr.getD fn.toNat 0) st
      rw [hpc] at ne1
      simp only [decide_true, Bool.not_true] at ne1
      refine seq_nx (ifS_false (st1 := st) (by rw [hpc] at hat; simp [-mNe, hR, hnge, hat, ne1, sizeLine_eq, hlz, show pr.length ≤ 16777216 by omega]) rfl) ?_
      have hlc := lcR_exs (k := k) (e := e0_Rules_called (R_Rules_value f 0) (R_Rules_value f 1)) (s := [some (.ref R), some (.int fn), some (.tup (encEs a)), none]) (st := st) (v := 3) (rE sz pr op) a ha (fun x hx => by
        have := ih' x hx
        simp [e0_Rules_called, hR]
        exact this)
      have hml := mLc_lcR (it := mITup (mVar 2)) (n := .nm 3) (t := mYes) (e := e0_Rules_called (R_Rules_value f 0) (R_Rules_value f 1)) (vs := [3]) (s := [some (.ref R), some (.int fn), some (.tup (encEs a)), none]) (st := st) (st1 := st) (ws := encEs a) (by simp) (by omega) hlc
      have hal := mAll_bl (exBools (rE sz pr op) a) st
      rw [exBools_all] at hal
      have hpc2 := hpc
      rw [List.getD_eq_getElem?_getD] at hpc2
      simp [-mLc, -mAll, hml, hal, callOk, hfn, hpc2]
    · have ne1 := mNe_ii ((encEs a).length : Int) (pr.getD fn.toNat 0) st
      have hd : decide (((encEs a).length : Int) = pr.getD fn.toNat 0) = false := by simp only [decide_eq_false_iff_not]; exact fun z => hpc z.symm
      rw [hd] at ne1
      simp only [Bool.not_false] at ne1
      refine seq_rt (ifS_true (st1 := st) (by
        generalize pr.getD fn.toNat 0 = pv at *
        simp [-mNe, hR, hnge, hat, ne1, sizeLine_eq, hlz, show pr.length ≤ 16777216 by omega]) ?_)
      have hpc2 := hpc
      rw [List.getD_eq_getElem?_getD] at hpc2
      simp [callOk, hpc2]
  · have hge : (pr.length : Int) ≤ fn := by omega
    refine seq_rt (ifS_true (st1 := st) (by simp [hR, hge, sizeLine_eq, show pr.length ≤ 16777216 by omega]) ?_)
    have hcf : callOk pr fn (encEs a).length = false := by unfold callOk; rw [decide_eq_false hfn]; rfl
    simp [hcf]
theorem t_value (h : RuAt B R sz pr g fw op nx st) : ∀ (k : Nat) (e : Ex), fineE k e → ∀ f, 2 * k ≤ f → m_Rules_value f [.ref R, encE e] st = .ok (.bl (rE sz pr op e)) st
  | 0, e, he, _, _ => by cases e <;> simp [fineE] at he
  | k + 1, e, he, f, hf => by
    obtain ⟨f, rfl⟩ : ∃ g, f = g + 1 := ⟨f - 1, by omega⟩
    have ih := fun e he => t_value h k e he f (by omega)
    obtain ⟨o, zs, hR, hO, hz, hB⟩ := h.ex
    have hz8 := h.sz8
    refine def_rt (n := 2) (k := 2) rfl ?_
    show b_Rules_value (R_Rules_value f 0) (R_Rules_value f 1) [some (.ref R), some (encE e), none, none] st = _
    unfold b_Rules_value
    have hkind : ∀ (s : Str) (xs : List W), encE e = .tup (.str s :: xs) → (mAsg (mOp mIx (mVar 1) (mC (W.int 0))) (mGN 2)) [some (.ref R), some (encE e), none, none] st = .nx [some (.ref R), some (encE e), some (.str s), none] st := fun s xs hx => by
      rw [hx]; simp [atI0]
    cases e with
    | num i =>
      refine seq_nx (hkind _ _ rfl) (seq_rt (ifS_true (st1 := st) (by simp [sizeLine_eq]) ?_))
      simp [rE]
    | inputs =>
      refine seq_nx (hkind _ _ rfl) (seq_rt (ifS_true (st1 := st) (by simp [sizeLine_eq]) ?_))
      simp [rE]
    | slot i =>
      refine seq_nx (hkind _ _ rfl) (seq_nx (ifS_false (st1 := st) (by simp [sizeLine_eq]) rfl) (seq_rt (ifS_true (st1 := st) (by simp) ?_)))
      have hi := mIn_intsR i op st hO
      simp [-mIn, encE, hR, hi, rE]
    | tab t e =>
      simp only [fineE] at he
      have e1 := ih e he.2
      refine seq_nx (hkind _ _ rfl) (seq_nx (ifS_false (st1 := st) (by simp [sizeLine_eq]) rfl) (seq_nx (ifS_false (st1 := st) (by simp) rfl) (seq_rt (ifS_true (st1 := st) (by simp) ?_))))
      have e1' : R_Rules_value f 0 [.ref R, encE e] st = .ok (.bl (rE sz pr op e)) st := e1
      by_cases hlt : t < (sz : Int)
      · have hlt' : t < (zs.length : Int) := by omega
        simp [encE, hR, hlt', sizeLine_eq, show zs.length ≤ 16777216 by omega, e1', rE, hlt]
      · have hlt' : ¬ t < (zs.length : Int) := by omega
        simp [encE, hR, hlt', sizeLine_eq, show zs.length ≤ 16777216 by omega, rE, hlt]
    | call fn a =>
      simp only [fineE] at he
      obtain ⟨f, rfl⟩ : ∃ g, f = g + 1 := ⟨f - 1, by omega⟩
      have ih' := fun e he => t_value h k e he f (by omega)
      refine seq_nx (hkind _ _ rfl) (seq_nx (ifS_false (st1 := st) (by simp [sizeLine_eq]) rfl) (seq_nx (ifS_false (st1 := st) (by simp) rfl) (seq_nx (ifS_false (st1 := st) (by simp) rfl) (seq_rt (ifS_true (st1 := st) (by simp) ?_)))))
      have hc : R_Rules_value (f + 1) 1 [.ref R, .int fn, .tup (encEs a)] st = .ok (.bl (callOk pr fn (encEs a).length && rEs sz pr op a)) st := t_called_of h k f ih' fn a he.1 he.2.1 he.2.2
      simp [encE, hR, hc, rE]
    | op s a b =>
      simp only [fineE] at he
      have e1 : R_Rules_value f 0 [.ref R, encE a] st = .ok (.bl (rE sz pr op a)) st := ih a he.2.1
      have e2 : R_Rules_value f 0 [.ref R, encE b] st = .ok (.bl (rE sz pr op b)) st := ih b he.2.2
      refine seq_nx (hkind _ _ rfl) (seq_nx (ifS_false (st1 := st) (by simp [sizeLine_eq]) rfl) (seq_nx (ifS_false (st1 := st) (by simp) rfl) (seq_nx (ifS_false (st1 := st) (by simp) rfl) (seq_nx (ifS_false (st1 := st) (by simp) rfl) (seq_rt (ifS_true (st1 := st) (by simp) ?_))))))
      cases ha : rE sz pr op a <;> simp [encE, hR, e1, e2, rE, ha]
    | input e =>
      simp only [fineE] at he
      have e1 : R_Rules_value f 0 [.ref R, encE e] st = .ok (.bl (rE sz pr op e)) st := ih e he
      refine seq_nx (hkind _ _ rfl) (seq_nx (ifS_false (st1 := st) (by simp [sizeLine_eq]) rfl) (seq_nx (ifS_false (st1 := st) (by simp) rfl) (seq_nx (ifS_false (st1 := st) (by simp) rfl) (seq_nx (ifS_false (st1 := st) (by simp) rfl) (seq_nx (ifS_false (st1 := st) (by simp) rfl) ?_)))))
      have hcut : cutW [W.str "input", encE e] (some 1) none = [encE e] := by have := cutB [W.str "input", encE e] 1; simpa using this
      have hml := mLc_lcR (it := mITup (mSl (mVar 1) (mPart (mC (W.int 1))) mNoPart)) (n := .nm 3) (t := mYes) (e := e0_Rules_value (R_Rules_value f 0) (R_Rules_value f 1)) (vs := [3]) (s := [some (.ref R), some (encE (.input e)), some (.str "input"), none]) (st := st) (st1 := st) (st2 := st) (ws := [encE e]) (ys := [.bl (rE sz pr op e)]) (by simp [encE, hcut]) (by simp) (lcR_cons (st1 := st) (by simp [wipeW, e0_Rules_value, hR, e1]) rfl)
      simp [-mLc, hml, boolsW, rE]
    | not e =>
      simp only [fineE] at he
      have e1 : R_Rules_value f 0 [.ref R, encE e] st = .ok (.bl (rE sz pr op e)) st := ih e he
      refine seq_nx (hkind _ _ rfl) (seq_nx (ifS_false (st1 := st) (by simp [sizeLine_eq]) rfl) (seq_nx (ifS_false (st1 := st) (by simp) rfl) (seq_nx (ifS_false (st1 := st) (by simp) rfl) (seq_nx (ifS_false (st1 := st) (by simp) rfl) (seq_nx (ifS_false (st1 := st) (by simp) rfl) ?_)))))
      have hcut : cutW [W.str "not", encE e] (some 1) none = [encE e] := by have := cutB [W.str "not", encE e] 1; simpa using this
      have hml := mLc_lcR (it := mITup (mSl (mVar 1) (mPart (mC (W.int 1))) mNoPart)) (n := .nm 3) (t := mYes) (e := e0_Rules_value (R_Rules_value f 0) (R_Rules_value f 1)) (vs := [3]) (s := [some (.ref R), some (encE (.not e)), some (.str "not"), none]) (st := st) (st1 := st) (st2 := st) (ws := [encE e]) (ys := [.bl (rE sz pr op e)]) (by simp [encE, hcut]) (by simp) (lcR_cons (st1 := st) (by simp [wipeW, e0_Rules_value, hR, e1]) rfl)
      simp [-mLc, hml, boolsW, rE]
    | lg o' a b =>
      simp only [fineE] at he
      have e1 : R_Rules_value f 0 [.ref R, encE a] st = .ok (.bl (rE sz pr op a)) st := ih a he.1
      have e2 : R_Rules_value f 0 [.ref R, encE b] st = .ok (.bl (rE sz pr op b)) st := ih b he.2
      have hcut : cutW [W.str (lgS o'), encE a, encE b] (some 1) none = [encE a, encE b] := by have := cutB [W.str (lgS o'), encE a, encE b] 1; simpa using this
      have hml := mLc_lcR (it := mITup (mSl (mVar 1) (mPart (mC (W.int 1))) mNoPart)) (n := .nm 3) (t := mYes) (e := e0_Rules_value (R_Rules_value f 0) (R_Rules_value f 1)) (vs := [3]) (s := [some (.ref R), some (encE (.lg o' a b)), some (.str (lgS o')), none]) (st := st) (st1 := st) (st2 := st) (ws := [encE a, encE b]) (ys := [.bl (rE sz pr op a), .bl (rE sz pr op b)]) (by simp [-lgS, encE, hcut]) (by simp) (lcR_cons (st1 := st) (by simp [wipeW, e0_Rules_value, hR, e1]) (lcR_cons (st1 := st) (by simp [wipeW, e0_Rules_value, hR, e2]) rfl))
      refine seq_nx (hkind _ _ rfl) ?_
      refine seq_nx (ifS_false (st1 := st) (by cases o' <;> simp [lgS, sizeLine_eq]) rfl) (seq_nx (ifS_false (st1 := st) (by cases o' <;> simp [lgS]) rfl) (seq_nx (ifS_false (st1 := st) (by cases o' <;> simp [lgS]) rfl) (seq_nx (ifS_false (st1 := st) (by cases o' <;> simp [lgS]) rfl) (seq_nx (ifS_false (st1 := st) (by cases o' <;> simp [lgS]) rfl) ?_))))
      generalize encE (.lg o' a b) = EE at *
      generalize lgS o' = LS at *
      simp [-mLc, hml, boolsW, rE]
theorem t_called (h : RuAt B R sz pr g fw op nx st) (k f : Nat) (hf : 2 * k + 1 ≤ f) (fn : Int) (a : Exs) (h0 : 0 ≤ fn) (hl4 : (encEs a).length ≤ 4) (ha : fineEs k a) :
    m_Rules_called f [.ref R, .int fn, .tup (encEs a)] st = .ok (.bl (callOk pr fn (encEs a).length && rEs sz pr op a)) st := by
  obtain ⟨f, rfl⟩ : ∃ g, f = g + 1 := ⟨f - 1, by omega⟩
  exact t_called_of h k f (fun e he => t_value h k e he f (by omega)) fn a h0 hl4 ha
end
end Gn

namespace Gn
open PySem L2 Mi
theorem rB_prefix (sz : Nat) (pr : List Int) (g : Bool) : ∀ (ss : Sms) (op : List Int) (nx : Int) (op' : List Int) (nx' : Int), rB sz pr g ss op nx = some (op', nx') → ∃ t, op' = op ++ t
  | .nil, op, nx, op', nx', h => by rw [rB] at h; cases h; exact ⟨[], by simp⟩
  | .cons s r, op, nx, op', nx', h => by
    rw [rB] at h
    split at h
    · rename_i o1 n1 e
      obtain ⟨t, rfl⟩ := rB_prefix sz pr g r o1 n1 op' nx' h
      have : ∃ u, o1 = op ++ u := by
        cases s with
        | lt b i e' =>
          cases b
          · rw [rS] at e; split at e
            · cases e; exact ⟨[], by simp⟩
            · cases e
          · rw [rS] at e; split at e
            · cases e; exact ⟨[i], rfl⟩
            · cases e
        | put t a b => rw [rS] at e; split at e
                       · cases e; exact ⟨[], by simp⟩
                       · cases e
        | ite c a b =>
          rw [rS] at e
          split at e
          · split at e
            · split at e
              · cases e; exact ⟨[], by simp⟩
              · cases e
            · cases e
          · cases e
        | whl c b =>
          rw [rS] at e
          split at e
          · split at e
            · cases e; exact ⟨[], by simp⟩
            · cases e
          · cases e
        | tell e' => rw [rS] at e; split at e
                     · cases e; exact ⟨[], by simp⟩
                     · cases e
        | give e' => rw [rS] at e; split at e
                     · cases e; exact ⟨[], by simp⟩
                     · cases e
        | run f a => rw [rS] at e; split at e
                     · cases e; exact ⟨[], by simp⟩
                     · cases e
      obtain ⟨u, rfl⟩ := this
      exact ⟨u ++ t, by simp⟩
    · cases h
structure ResOk (B R sz : Nat) (pr : List Int) (g : Bool) (fw : W) (r : Option (List Int × Int)) (st : Sto) (out : Out W) : Prop where
  ex : ∃ (st' : Sto) (op' : List Int) (nx' : Int), out = .ok (.bl r.isSome) st' ∧ RuAt B R sz pr g fw op' nx' st' ∧ Kp B st st' ∧ ∀ p, r = some p → p = (op', nx')
section
variable {B R sz : Nat} {pr : List Int} {g : Bool} {fw : W} {op : List Int} {nx : Int} {st : Sto}
theorem RuAt.lt (h : RuAt B R sz pr g fw op nx st) : B ≤ st.length := by
  obtain ⟨o, zs, hR, hO, hz, hB⟩ := h.ex
  have := (List.getElem?_eq_some_iff.mp hO).1
  omega
theorem res_same (h : RuAt B R sz pr g fw op nx st) (b : Bool) {out : Out W} (e : out = .ok (.bl b) st) : ResOk B R sz pr g fw (if b = true then some (op, nx) else none) st out :=
  ⟨st, op, nx, by rw [e]; cases b <;> rfl, h, Kp.refl _ _, fun p hp => by
    split at hp
    · cases hp; rfl
    · cases hp⟩
theorem t_slot_set (h : RuAt B R sz pr g fw op nx st) (i : Int) : m_Rules_slot [.ref R, .str "set", .int i] st = .ok (.bl (decide (i ∈ op))) st := by
  obtain ⟨o, zs, hR, hO, hz, hB⟩ := h.ex
  refine def_rt (n := 3) (k := 0) rfl ?_
  show b_Rules_slot [some (.ref R), some (.str "set"), some (.int i)] st = _
  unfold b_Rules_slot
  refine seq_rt (ifS_true (st1 := st) (by simp) ?_)
  have hi := mIn_intsR i op st hO
  simp [-mIn, hR, hi]
theorem t_slot_let (h : RuAt B R sz pr g fw op nx st) (i : Int) (hi : i ≤ 1000000) (h0 : 0 ≤ i) : ResOk B R sz pr g fw (if i = nx then some (op ++ [i], nx + 1) else none) st (m_Rules_slot [.ref R, .str "let", .int i] st) := by
  obtain ⟨o, zs, hR, hO, hz, hB⟩ := h.ex
  have hRO : R ≠ o := fun z => by rw [z, hO] at hR; cases hR
  have hol := h.ol
  have hol2 : op.length < 16777216 := by have := h.nl; omega
  by_cases e : i = nx
  · subst e
    rw [if_pos rfl]
    have hRl := (List.getElem?_eq_some_iff.mp hR).1
    have hOl := (List.getElem?_eq_some_iff.mp hO).1
    obtain ⟨s1, hs1⟩ : ∃ s1, s1 = st.set R (.ins 9 (ruF (.tup zs) pr g (i + 1) o fw)) := ⟨_, rfl⟩
    have gR : s1[R]? = some (.ins 9 (ruF (.tup zs) pr g (i + 1) o fw)) := by rw [hs1, List.getElem?_set_self hRl]
    have gO : s1[o]? = some (.lst (op.map W.int)) := by rw [hs1, List.getElem?_set_ne hRO]; exact hO
    obtain ⟨s2, hs2⟩ : ∃ s2, s2 = s1.set o (.lst ((op ++ [i]).map W.int)) := ⟨_, rfl⟩
    have k1 : Kp B st s1 := by rw [hs1]; exact Kp.set h.bR
    have k2 : Kp B s1 s2 := by rw [hs2]; exact Kp.set hB
    have hOl1 : o < s1.length := (List.getElem?_eq_some_iff.mp gO).1
    refine ⟨s2, op ++ [i], i + 1, ?_, ⟨⟨o, zs, by rw [hs2, List.getElem?_set_ne (Ne.symm hRO)]; exact gR, by rw [hs2, List.getElem?_set_self hOl1], hz, hB⟩, h.bR, h.sz8, h.pr8, by simp; omega, by omega⟩, k1.trans k2, fun p hp => (Option.some.inj hp).symm⟩
    refine def_rt (n := 3) (k := 0) rfl ?_
    show b_Rules_slot [some (.ref R), some (.str "let"), some (.int i)] st = _
    unfold b_Rules_slot
    refine seq_nx (ifS_false (st1 := st) (by simp) rfl) ?_
    refine seq_nx (ifS_false (st1 := st) (by simp [hR]) rfl) ?_
    refine seq_nx (s1 := [some (.ref R), some (.str "let"), some (.int i)]) (st1 := s1) (by rw [hs1]; simp [hR, putW]) ?_
    refine seq_nx (s1 := [some (.ref R), some (.str "let"), some (.int i)]) (st1 := s2) (by rw [hs2]; simp [gR, gO, sizeLine_eq, hol2]) ?_
    simp
  · rw [if_neg e]
    refine ⟨st, op, nx, ?_, h, Kp.refl _ _, fun p hp => by cases hp⟩
    refine def_rt (n := 3) (k := 0) rfl ?_
    show b_Rules_slot [some (.ref R), some (.str "let"), some (.int i)] st = _
    unfold b_Rules_slot
    refine seq_nx (ifS_false (st1 := st) (by simp) rfl) ?_
    refine seq_rt (ifS_true (st1 := st) (by simp [hR, e]) ?_)
    simp
end
section
variable {K B R sz : Nat} {pr : List Int} {g : Bool} {fw : W} (hK : K ≤ 1000)
include hK
/-- the statements of a body, one after another -/
theorem body_run {k n : Nat} {r0 r1 : MF} (hs : ∀ s, fineS k s → Pw K n (encS s) → ∀ (st : Sto) (op : List Int) (nx : Int), RuAt B R sz pr g fw op nx st → ResOk B R sz pr g fw (rS sz pr g s op nx) st (r1 [.ref R, encS s] st)) (w : W) :
    ∀ (ss : Sms), fineSs k ss → (∀ x ∈ encSs ss, Pw K n x) → ∀ (st : Sto) (op : List Int) (nx : Int) (x2 x3 : Option W), RuAt B R sz pr g fw op nx st →
      (∃ (st' : Sto) (op' : List Int) (nx' : Int) (y3 : Option W), rB sz pr g ss op nx = some (op', nx') ∧ runL (mGN 3) (l0_Rules_body r0 r1) (encSs ss) [some (.ref R), some w, x2, x3] st = .nx [some (.ref R), some w, x2, y3] st' ∧ RuAt B R sz pr g fw op' nx' st' ∧ Kp B st st') ∨
      (∃ (st' : Sto) (op' : List Int) (nx' : Int), rB sz pr g ss op nx = none ∧ runL (mGN 3) (l0_Rules_body r0 r1) (encSs ss) [some (.ref R), some w, x2, x3] st = .rt (.bl false) st' ∧ RuAt B R sz pr g fw op' nx' st' ∧ Kp B st st')
  | .nil, _, _, st, op, nx, x2, x3, h => .inl ⟨st, op, nx, x3, by rw [rB], rfl, h, Kp.refl _ _⟩
  | .cons s r, hf, hp, st, op, nx, x2, x3, h => by
    rw [fineSs] at hf
    rw [encSs] at hp ⊢
    obtain ⟨st1, op1, nx1, e1, h1, k1, q1⟩ := (hs s hf.1 (hp _ (by simp)) st op nx h).ex
    obtain ⟨o, zs, hR, hO, hz, hB⟩ := h.ex
    have hl : l0_Rules_body r0 r1 [some (.ref R), some w, x2, some (encS s)] st = if (rS sz pr g s op nx).isSome = true then .nx [some (.ref R), some w, x2, some (encS s)] st1 else .rt (.bl false) st1 := by
      unfold l0_Rules_body
      cases hb : (rS sz pr g s op nx).isSome with
      | true => rw [hb] at e1; simp [hR, e1]
      | false => rw [hb] at e1; simp [hR, e1]
    cases hr : rS sz pr g s op nx with
    | none =>
      rw [hr] at hl
      refine .inr ⟨st1, op1, nx1, by rw [rB, hr], ?_, h1, k1⟩
      have : (mGN 3) (encS s) [some (.ref R), some w, x2, x3] st = some ([some (.ref R), some w, x2, some (encS s)], st) := rfl
      simp only [runL, this, hl]
      rfl
    | some p =>
      rw [hr] at hl
      have hp1 := q1 p hr
      subst hp1
      have hg : (mGN 3) (encS s) [some (.ref R), some w, x2, x3] st = some ([some (.ref R), some w, x2, some (encS s)], st) := rfl
      rcases body_run hs w r hf.2 (fun x hx => hp x (by simp [hx])) st1 op1 nx1 x2 (some (encS s)) h1 with ⟨st2, op2, nx2, y3, e2, e3, h2, k2⟩ | ⟨st2, op2, nx2, e2, e3, h2, k2⟩
      · refine .inl ⟨st2, op2, nx2, y3, by rw [rB, hr]; exact e2, ?_, h2, k1.trans k2⟩
        simp only [runL, hg, hl]
        exact e3
      · refine .inr ⟨st2, op2, nx2, by rw [rB, hr]; exact e2, ?_, h2, k1.trans k2⟩
        simp only [runL, hg, hl]
        exact e3
theorem t_body {k n f : Nat} (hs : ∀ s, fineS k s → Pw K n (encS s) → ∀ (st : Sto) (op : List Int) (nx : Int), RuAt B R sz pr g fw op nx st → ResOk B R sz pr g fw (rS sz pr g s op nx) st (m_Rules_statement f [.ref R, encS s] st))
    (ss : Sms) (hf : fineSs k ss) (hp : Pw K (n + 1) (.tup (encSs ss))) (st : Sto) (op : List Int) (nx : Int) (h : RuAt B R sz pr g fw op nx st) :
    ResOk B R sz pr g fw ((rB sz pr g ss op nx).map fun p => (op, p.2)) st (m_Rules_body (f + 1) [.ref R, .tup (encSs ss)] st) := by
  obtain ⟨o, zs, hR, hO, hz, hB⟩ := h.ex
  have hol2 : op.length ≤ 16777216 := by have := h.nl; have := h.ol; omega
  have hd : ∀ (w : W) (st' : Sto), b_Rules_body (R_Rules_body f 0) (R_Rules_body f 1) [some (.ref R), some (.tup (encSs ss)), none, none] st = .rt w st' → m_Rules_body (f + 1) [.ref R, .tup (encSs ss)] st = .ok w st' := fun w st' e => def_rt (n := 2) (k := 2) rfl e
  have h1 : (mAsg (mCB mLen (mCons (mFld 9 "_open" (mVar 0)) mNil)) (mGN 2)) [some (.ref R), some (.tup (encSs ss)), none, none] st = .nx [some (.ref R), some (.tup (encSs ss)), some (.int (op.length : Int)), none] st := by simp [hR, hO, sizeLine_eq, hol2]
  rcases body_run hK (r0 := R_Rules_body f 0) (r1 := R_Rules_body f 1) hs (.tup (encSs ss)) ss hf hp.2 st op nx (some (.int (op.length : Int))) none h with ⟨st2, op2, nx2, y3, e2, e3, h2, k2⟩ | ⟨st2, op2, nx2, e2, e3, h2, k2⟩
  · obtain ⟨t, ht⟩ := rB_prefix sz pr g ss op nx op2 nx2 e2
    obtain ⟨o2, zs2, hR2, hO2, hz2, hB2⟩ := h2.ex
    have hRO : R ≠ o2 := fun z => by rw [z, hO2] at hR2; cases hR2
    have hRl := (List.getElem?_eq_some_iff.mp hR2).1
    have hcut : cutW (op2.map W.int) none (some (op.length : Int)) = op.map W.int := by
      rw [cutA, ht, List.map_append]
      simp
    obtain ⟨s3, hs3⟩ : ∃ s3, s3 = st2 ++ [Ob.lst (op.map W.int)] := ⟨_, rfl⟩
    obtain ⟨s4, hs4⟩ : ∃ s4, s4 = s3.set R (.ins 9 (ruF (.tup zs2) pr g nx2 st2.length fw)) := ⟨_, rfl⟩
    have hR3 : s3[R]? = some (.ins 9 (ruF (.tup zs2) pr g nx2 o2 fw)) := by rw [hs3, List.getElem?_append_left hRl]; exact hR2
    have hl3 : s3.length = st2.length + 1 := by rw [hs3]; simp
    have hO3 : s3[st2.length]? = some (.lst (op.map W.int)) := by rw [hs3]; simp
    have hBl := h2.lt
    have k3 : Kp B st2 s3 := by rw [hs3]; exact Kp.app hBl _
    have k4 : Kp B s3 s4 := by rw [hs4]; exact Kp.set h.bR
    refine ⟨s4, op, nx2, hd _ _ ?_, ⟨⟨st2.length, zs2, by rw [hs4, List.getElem?_set_self (by omega)], by rw [hs4, List.getElem?_set_ne (by omega)]; exact hO3, hz2, hBl⟩, h.bR, h.sz8, h.pr8, ?_, h2.nl⟩, (k2.trans k3).trans k4, fun p hp => ?_⟩
    · unfold b_Rules_body
      refine seq_nx h1 ?_
      refine seq_nx (mFor_runL (ws := encSs ss) (st1 := st) (by simp) e3) ?_
      refine seq_nx (s1 := [some (.ref R), some (.tup (encSs ss)), some (.int (op.length : Int)), y3]) (st1 := s4) (by
        rw [hs4, hs3]
        simp [hR2, hO2, hcut, putW]
        rw [List.getElem?_append_left hRl, hR2]
        simp [putW]) ?_
      simp [e2]
    · have := h2.ol
      rw [ht] at this
      simp at this
      omega
    · rw [e2] at hp
      simp at hp
      exact hp.symm
  · refine ⟨st2, op2, nx2, hd _ _ ?_, h2, k2, fun p hp => ?_⟩
    · unfold b_Rules_body
      refine seq_nx h1 ?_
      refine seq_rt (st1 := st2) ?_
      rw [mFor_runL (ws := encSs ss) (st1 := st) (by simp) e3, e2]
      rfl
    · rw [e2] at hp; cases hp
theorem t_stmt : ∀ (k : Nat), k ≤ 13 → ∀ (s : Sm'), fineS k s → ∀ (n : Nat), Pw K n (encS s) → ∀ (f : Nat), 2 * k ≤ f → ∀ (st : Sto) (op : List Int) (nx : Int), RuAt B R sz pr g fw op nx st → ResOk B R sz pr g fw (rS sz pr g s op nx) st (m_Rules_statement f [.ref R, encS s] st)
  | 0, _, s, hs, _, _, _, _, _, _, _, _ => by cases s <;> simp [fineS] at hs
  | k + 1, hk, s, hs, n, hp, f, hf, st, op, nx, h => by
    obtain ⟨f, rfl⟩ : ∃ g, f = g + 1 := ⟨f - 1, by omega⟩
    obtain ⟨o, zs, hR, hO, hz, hB⟩ := h.ex
    have hz8 := h.sz8
    have val : ∀ e, fineE k e → m_Rules_value 40 [.ref R, encE e] st = .ok (.bl (rE sz pr op e)) st := fun e he => t_value h k e he 40 (by omega)
    have hd : ∀ (w : W) (st' : Sto), b_Rules_statement (R_Rules_body f 0) (R_Rules_body f 1) [some (.ref R), some (encS s), none, none] st = .rt w st' → m_Rules_statement (f + 1) [.ref R, encS s] st = .ok w st' := fun w st' e => def_rt (n := 2) (k := 2) rfl e
    have hkind : ∀ (z : Str) (xs : List W), encS s = .tup (.str z :: xs) → (mAsg (mOp mIx (mVar 1) (mC (W.int 0))) (mGN 2)) [some (.ref R), some (encS s), none, none] st = .nx [some (.ref R), some (encS s), some (.str z), none] st := fun z xs hx => by
      rw [hx]; simp [atI0]
    have okp : ∀ (b : Bool) (r : Option (List Int × Int)), r = (if b = true then some (op, nx) else none) → b_Rules_statement (R_Rules_body f 0) (R_Rules_body f 1) [some (.ref R), some (encS s), none, none] st = .rt (.bl b) st → ResOk B R sz pr g fw r st (m_Rules_statement (f + 1) [.ref R, encS s] st) := fun b r e1 e2 => by
      rw [e1]; exact res_same h b (hd _ _ e2)
    have bod : ∀ (ss : Sms), fineSs k ss → ∀ (m : Nat), Pw K m (.tup (encSs ss)) → ∀ (st : Sto) (op : List Int) (nx : Int), RuAt B R sz pr g fw op nx st → 2 * k + 1 ≤ f → ResOk B R sz pr g fw ((rB sz pr g ss op nx).map fun p => (op, p.2)) st (R_Rules_body f 0 [.ref R, .tup (encSs ss)] st) := fun ss hss m hm st op nx h hf' => by
      obtain ⟨f, rfl⟩ : ∃ g, f = g + 1 := ⟨f - 1, by omega⟩
      obtain ⟨m, rfl, -, -⟩ := Pw.sub hK hm
      exact t_body hK (k := k) (n := m) (f := f) (fun s hs hp st op nx h => t_stmt k (by omega) s hs m hp f (by omega) st op nx h) ss hss hm st op nx h
    cases s with
    | lt b i e =>
      simp only [fineS] at hs
      have v1 := val e hs.2
      have hi : i ≤ 1000000 := by
        obtain ⟨m, rfl, -, hx⟩ := Pw.sub hK hp
        have : Pw K m (.int i) := hx _ (by simp)
        cases m <;> exact this.2
      cases b with
      | false =>
        have s1 := t_slot_set h i
        refine okp (rE sz pr op e && decide (i ∈ op)) _ ?_ ?_
        · rw [rS]; simp
        · unfold b_Rules_statement
          refine seq_nx (hkind _ _ rfl) (seq_rt (ifS_true (st1 := st) (by simp [sizeLine_eq]) ?_))
          cases hr : rE sz pr op e <;> rw [hr] at v1 <;> simp [ltS, encS, hR, v1, s1]
      | true =>
        have hkd : (mAsg (mOp mIx (mVar 1) (mC (W.int 0))) (mGN 2)) [some (.ref R), some (encS (.lt true i e)), none, none] st = .nx [some (.ref R), some (encS (.lt true i e)), some (.str "let"), none] st := hkind "let" _ rfl
        cases hr : rE sz pr op e with
        | false =>
          rw [hr] at v1
          refine okp false _ (by rw [rS]; simp [hr]) ?_
          unfold b_Rules_statement
          refine seq_nx hkd (seq_rt (ifS_true (st1 := st) (by simp [sizeLine_eq]) ?_))
          simp [ltS, encS, hR, v1]
        | true =>
          rw [hr] at v1
          have h0 : 0 ≤ i := hs.1
          obtain ⟨st1, op1, nx1, e1, h1, k1, q1⟩ := (t_slot_let h i hi h0).ex
          have hrs : rS sz pr g (.lt true i e) op nx = (if i = nx then some (op ++ [i], nx + 1) else none) := by rw [rS]; simp [hr]
          rw [hrs]
          refine ⟨st1, op1, nx1, hd _ _ ?_, h1, k1, q1⟩
          generalize (if i = nx then some (op ++ [i], nx + 1) else none).isSome = bb at *
          unfold b_Rules_statement
          refine seq_nx hkd (seq_rt (ifS_true (st1 := st) (by simp [sizeLine_eq]) ?_))
          simp [ltS, encS, hR, v1, e1]
    | put t a b =>
      simp only [fineS] at hs
      have v1 := val a hs.2.1
      have v2 := val b hs.2.2
      have hzl : zs.length ≤ 16777216 := by omega
      have hzz : (zs.length : Int) = (sz : Int) := by omega
      refine okp (decide (t < (sz : Int)) && (rE sz pr op a && rE sz pr op b)) _ (by rw [rS]; simp) ?_
      unfold b_Rules_statement
      refine seq_nx (hkind _ _ rfl) (seq_nx (ifS_false (st1 := st) (by simp [sizeLine_eq]) rfl) (seq_nx (ifS_false (st1 := st) (by simp [sizeLine_eq]) rfl) (seq_nx (ifS_false (st1 := st) (by simp) rfl) (seq_nx (ifS_false (st1 := st) (by simp) rfl) (seq_nx (ifS_false (st1 := st) (by simp) rfl) ?_)))))
      by_cases hlt : t < (sz : Int)
      · cases ha : rE sz pr op a <;> rw [ha] at v1 <;> simp [encS, hR, sizeLine_eq, hzl, hzz, hlt, v1, v2]
      · simp [encS, hR, sizeLine_eq, hzl, hzz, hlt]
    | ite c a b =>
      simp only [fineS] at hs
      have v1 := val c hs.1
      have hpp := Pw.sub hK hp
      obtain ⟨m, rfl, -, hx⟩ := hpp
      cases hr : rE sz pr op c with
      | false =>
        rw [hr] at v1
        refine okp false _ (by rw [rS]; simp [hr]) ?_
        unfold b_Rules_statement
        refine seq_nx (hkind _ _ rfl) (seq_nx (ifS_false (st1 := st) (by simp [sizeLine_eq]) rfl) (seq_rt (ifS_true (st1 := st) (by simp [sizeLine_eq]) ?_)))
        simp [encS, hR, v1]
      | true =>
        rw [hr] at v1
        obtain ⟨st1, op1, nx1, e1, h1, k1, q1⟩ := (bod a hs.2.1 m (hx _ (by simp)) st op nx h (by omega)).ex
        obtain ⟨st2, op2, nx2, e2, h2, k2, q2⟩ := (bod b hs.2.2 m (hx _ (by simp)) st1 op1 nx1 h1 (by omega)).ex
        obtain ⟨o1, zs1, hR1, -⟩ := h1.ex
        have hcut : cutW [W.str "if", encE c, .tup (encSs a), .tup (encSs b)] (some 2) none = [.tup (encSs a), .tup (encSs b)] := by have := cutB [W.str "if", encE c, .tup (encSs a), .tup (encSs b)] 2; simpa using this
        refine ⟨st2, op2, nx2, hd _ _ ?_, h2, k1.trans k2, fun p hp' => ?_⟩
        · have hbool : (rS sz pr g (.ite c a b) op nx).isSome = (((rB sz pr g a op nx).map fun p => (op, p.2)).isSome && ((rB sz pr g b op1 nx1).map fun p => (op1, p.2)).isSome) := by
            rw [rS, hr]
            simp only [if_true]
            cases ha : rB sz pr g a op nx with
            | none => simp
            | some pa =>
              have := q1 (op, pa.2) (by rw [ha]; rfl)
              simp only [Prod.mk.injEq] at this
              rw [← this.1, ← this.2]
              cases hb : rB sz pr g b op pa.2 with
              | none => simp [hb]
              | some pb => simp [hb]
          rw [hbool]
          generalize ((rB sz pr g a op nx).map fun p => (op, p.2)).isSome = b1 at *
          generalize ((rB sz pr g b op1 nx1).map fun p => (op1, p.2)).isSome = b2 at *
          have hml := mLc_lcR (it := mITup (mSl (mVar 1) (mPart (mC (W.int 2))) mNoPart)) (n := .nm 3) (t := mYes) (e := e0_Rules_statement (R_Rules_body f 0) (R_Rules_body f 1)) (vs := [3]) (s := [some (.ref R), some (encS (.ite c a b)), some (.str "if"), none]) (st := st) (st1 := st) (st2 := st2) (ws := [.tup (encSs a), .tup (encSs b)]) (ys := [.bl b1, .bl b2]) (by simp [encS, hcut]) (by simp) (lcR_cons (st1 := st1) (by simp [wipeW, e0_Rules_statement, hR, e1]) (lcR_cons (st1 := st2) (by simp [wipeW, e0_Rules_statement, hR1, e2]) rfl))
          unfold b_Rules_statement
          refine seq_nx (hkind _ _ rfl) (seq_nx (ifS_false (st1 := st) (by simp [sizeLine_eq]) rfl) (seq_rt (ifS_true (st1 := st) (by simp [sizeLine_eq]) ?_)))
          have v1' : m_Rules_value 40 [.ref R, encE c] st = .ok (.bl true) st := v1
          have hat1 : atI [W.str "if", encE c, .tup (encSs a), .tup (encSs b)] 1 = some (encE c) := by have := Mi.atI_nat [W.str "if", encE c, .tup (encSs a), .tup (encSs b)] 1; simpa using this
          have hEE : encS (.ite c a b) = .tup [W.str "if", encE c, .tup (encSs a), .tup (encSs b)] := rfl
          rw [hEE] at hml ⊢
          simp [-mLc, hR, hat1, v1', hml, boolsW]
        · rw [rS, hr] at hp'
          simp only [if_true] at hp'
          split at hp'
          · rename_i u1 n1 ea
            have := q1 (op, n1) (by rw [ea]; rfl)
            simp only [Prod.mk.injEq] at this
            obtain ⟨t1, t2⟩ := this
            split at hp'
            · rename_i u2 n2 eb
              have := q2 (op1, n2) (by rw [← t1, ← t2, eb]; rfl)
              cases hp'
              rw [t1]; exact this
            · cases hp'
          · cases hp'
    | whl c b =>
      simp only [fineS] at hs
      have v1 := val c hs.1
      obtain ⟨m, rfl, -, hx⟩ := Pw.sub hK hp
      cases hr : rE sz pr op c with
      | false =>
        rw [hr] at v1
        refine okp false _ (by rw [rS]; simp [hr]) ?_
        unfold b_Rules_statement
        refine seq_nx (hkind _ _ rfl) (seq_nx (ifS_false (st1 := st) (by simp [sizeLine_eq]) rfl) (seq_rt (ifS_true (st1 := st) (by simp [sizeLine_eq]) ?_)))
        simp [encS, hR, v1]
      | true =>
        rw [hr] at v1
        obtain ⟨st1, op1, nx1, e1, h1, k1, q1⟩ := (bod b hs.2 m (hx _ (by simp)) st op nx h (by omega)).ex
        have hcut : cutW [W.str "while", encE c, .tup (encSs b)] (some 2) none = [.tup (encSs b)] := by have := cutB [W.str "while", encE c, .tup (encSs b)] 2; simpa using this
        have hrs : rS sz pr g (.whl c b) op nx = (rB sz pr g b op nx).map fun p => (op, p.2) := by
          rw [rS, hr]
          simp only [if_true]
          cases rB sz pr g b op nx with
          | none => rfl
          | some p => rfl
        rw [hrs]
        refine ⟨st1, op1, nx1, hd _ _ ?_, h1, k1, q1⟩
        generalize ((rB sz pr g b op nx).map fun p => (op, p.2)).isSome = b1 at *
        have hml := mLc_lcR (it := mITup (mSl (mVar 1) (mPart (mC (W.int 2))) mNoPart)) (n := .nm 3) (t := mYes) (e := e0_Rules_statement (R_Rules_body f 0) (R_Rules_body f 1)) (vs := [3]) (s := [some (.ref R), some (encS (.whl c b)), some (.str "while"), none]) (st := st) (st1 := st) (st2 := st1) (ws := [.tup (encSs b)]) (ys := [.bl b1]) (by simp [encS, hcut]) (by simp) (lcR_cons (st1 := st1) (by simp [wipeW, e0_Rules_statement, hR, e1]) rfl)
        unfold b_Rules_statement
        refine seq_nx (hkind _ _ rfl) (seq_nx (ifS_false (st1 := st) (by simp [sizeLine_eq]) rfl) (seq_rt (ifS_true (st1 := st) (by simp [sizeLine_eq]) ?_)))
        have v1' : m_Rules_value 40 [.ref R, encE c] st = .ok (.bl true) st := v1
        have hat1 : atI [W.str "while", encE c, .tup (encSs b)] 1 = some (encE c) := by have := Mi.atI_nat [W.str "while", encE c, .tup (encSs b)] 1; simpa using this
        have hEE : encS (.whl c b) = .tup [W.str "while", encE c, .tup (encSs b)] := rfl
        rw [hEE] at hml ⊢
        simp [-mLc, hR, hat1, v1', hml, boolsW]
    | tell e =>
      simp only [fineS] at hs
      have v1 := val e hs
      refine okp (rE sz pr op e) _ (by rw [rS]) ?_
      unfold b_Rules_statement
      refine seq_nx (hkind _ _ rfl) (seq_nx (ifS_false (st1 := st) (by simp [sizeLine_eq]) rfl) (seq_nx (ifS_false (st1 := st) (by simp [sizeLine_eq]) rfl) (seq_nx (ifS_false (st1 := st) (by simp) rfl) (seq_rt (ifS_true (st1 := st) (by simp) ?_)))))
      simp [encS, hR, v1]
    | give e =>
      simp only [fineS] at hs
      have v1 := val e hs
      refine okp (g && rE sz pr op e) _ (by rw [rS]; simp) ?_
      unfold b_Rules_statement
      refine seq_nx (hkind _ _ rfl) (seq_nx (ifS_false (st1 := st) (by simp [sizeLine_eq]) rfl) (seq_nx (ifS_false (st1 := st) (by simp [sizeLine_eq]) rfl) (seq_rt (ifS_true (st1 := st) (by simp) ?_))))
      cases g <;> simp [encS, hR, v1]
    | run fn a =>
      simp only [fineS] at hs
      have hc : m_Rules_called 40 [.ref R, .int fn, .tup (encEs a)] st = .ok (.bl (callOk pr fn (encEs a).length && rEs sz pr op a)) st := t_called h k 40 (by omega) fn a hs.1 hs.2.1 hs.2.2
      refine okp (callOk pr fn (encEs a).length && rEs sz pr op a) _ (by rw [rS]; simp) ?_
      unfold b_Rules_statement
      refine seq_nx (hkind _ _ rfl) (seq_nx (ifS_false (st1 := st) (by simp [sizeLine_eq]) rfl) (seq_nx (ifS_false (st1 := st) (by simp [sizeLine_eq]) rfl) (seq_nx (ifS_false (st1 := st) (by simp) rfl) (seq_nx (ifS_false (st1 := st) (by simp) rfl) (seq_rt (ifS_true (st1 := st) (by simp) ?_))))))
      simp [encS, hR, hc]
end
end Gn

namespace Gn
open PySem L2 Mi
/-! ### the law's rules -/
def ruL (zs : List W) (prW : W) (g : Bool) (op : List Int) (nx : Int) : List (Key × W) := [(.inr "sizes", .tup zs), (.inr "params", prW), (.inr "open", .lst (op.map W.int)), (.inr "next", .int nx), (.inr "give", .bl g)]
abbrev ruD (zs : List W) (prW : W) (g : Bool) (op : List Int) (nx : Int) : Ob := .dK (ruL zs prW g op nx)
section
variable {zs : List W} {prW : W} {g : Bool} {op op' : List Int} {nx nx' : Int}
@[simp] theorem rl0 : valW (ruL zs prW g op nx) (.inr "sizes") = some (.tup zs) := rfl
@[simp] theorem rl1 : valW (ruL zs prW g op nx) (.inr "params") = some prW := rfl
@[simp] theorem rl2 : valW (ruL zs prW g op nx) (.inr "open") = some (.lst (op.map W.int)) := rfl
@[simp] theorem rl3 : valW (ruL zs prW g op nx) (.inr "next") = some (.int nx) := rfl
@[simp] theorem rl4 : valW (ruL zs prW g op nx) (.inr "give") = some (.bl g) := rfl
theorem rp2 : putKW (ruL zs prW g op nx) (.inr "open") (.lst (op'.map W.int)) = ruL zs prW g op' nx := rfl
theorem rp3 : putKW (ruL zs prW g op nx) (.inr "next") (.int nx') = ruL zs prW g op nx' := rfl
@[simp] theorem rll : (ruL zs prW g op nx).length = 5 := rfl
end
structure LuAt (N : Int) (v : Nat) (zs : List W) (prW : W) (sz : Nat) (pr : List Int) (g : Bool) (op : List Int) (nx : Int) (st : Sto) : Prop where
  ob : st[v]? = some (ruD zs prW g op nx)
  pw : asL prW st = some (pr.map W.int)
  pn : prW ≠ .ref v
  hz : zs.length = sz
  sz8 : sz ≤ 1000
  pr8 : pr.length ≤ 1000
  ol : (op.length : Int) ≤ nx
  nl : nx ≤ N
theorem lcR_take {v : Nat} {t : MT} {e : ME} {s : Slo} {y b : W} {ys bs : List W} {st st1 st2 : Sto} (h0 : t (s.set v (some y)) st = .ok true st) (h1 : e (s.set v (some y)) st = .ok b st1) (h2 : lcR (NT.m (.nm v)) t e s ys st1 = .ok bs st2) : lcR (NT.m (.nm v)) t e s (y :: ys) st = .ok (b :: bs) st2 := by
  have hm : NT.m (.nm v) y s st = some (s.set v (some y), st) := rfl
  simp only [lcR, hm, h0, h1, h2]
theorem lcR_skip {v : Nat} {t : MT} {e : ME} {s : Slo} {y : W} {ys bs : List W} {st st2 : Sto} (h0 : t (s.set v (some y)) st = .ok false st) (h2 : lcR (NT.m (.nm v)) t e s ys st = .ok bs st2) : lcR (NT.m (.nm v)) t e s (y :: ys) st = .ok bs st2 := by
  have hm : NT.m (.nm v) y s st = some (s.set v (some y), st) := rfl
  simp only [lcR, hm, h0, h2]
theorem enc_tup (e : Ex) : ∃ xs, encE e = .tup xs := by cases e <;> exact ⟨_, rfl⟩
section
variable {N : Int} {v sz : Nat} {zs : List W} {prW : W} {pr : List Int} {g : Bool} {op : List Int} {nx : Int} {st : Sto}
theorem LuAt.plen (h : LuAt N v zs prW sz pr g op nx st) : mLen [prW] st = .ok (.int (pr.length : Int)) st := by
  have e := h.pw
  have hp := h.pr8
  cases prW with
  | lst ws => simp only [asL, Option.some.injEq] at e; subst e; simp [sizeLine_eq, show pr.length ≤ 16777216 by omega]
  | xst ws => simp only [asL, Option.some.injEq] at e; subst e; simp [sizeLine_eq, show pr.length ≤ 16777216 by omega]
  | ref p =>
    simp only [asL] at e
    split at e
    · rename_i ws hw
      cases e
      simp [hw, sizeLine_eq, show pr.length ≤ 16777216 by omega]
    · cases e
  | _ => cases e
theorem LuAt.pix (h : LuAt N v zs prW sz pr g op nx st) {f : Int} (h0 : 0 ≤ f) (h1 : f < (pr.length : Int)) : mIx prW (.int f) st = .ok (.int (pr.getD f.toNat 0)) st := by
  have e := h.pw
  have hat := pr_at h0 h1
  cases prW with
  | tup ws => cases e
  | str z => cases e
  | _ => simp only [mIx, e, hat]
theorem l_called_of (h : LuAt N v zs prW sz pr g op nx st) (k f : Nat) (ih' : ∀ e, fineE k e → m_L_e_holds f [.ref v, encE e] st = .ok (.bl (rE sz pr op e)) st) (fn : Int) (a : Exs) (h0 : 0 ≤ fn) (hl4 : (encEs a).length ≤ 4) (ha : fineEs k a) (z : W) :
    R_L_called (f + 1) 0 [.ref v, .tup [z, .int fn, .tup (encEs a)]] st = .ok (.bl (callOk pr fn (encEs a).length && rEs sz pr op a)) st := by
  have hob := h.ob
  have hpl := h.plen
  refine def_rt (n := 2) (k := 1) rfl ?_
  show b_L_called (R_L_called f 0) (R_L_called f 1) [some (.ref v), some (.tup [z, .int fn, .tup (encEs a)]), none] st = _
  unfold b_L_called
  have hlz : (encEs a).length ≤ 16777216 := by omega
  have a1 : mIx (.tup [z, W.int fn, .tup (encEs a)]) (.int 1) st = .ok (.int fn) st := by have := Mi.atI_nat [z, W.int fn, .tup (encEs a)] 1; simp
  have a2 : mIx (.tup [z, W.int fn, .tup (encEs a)]) (.int 2) st = .ok (.tup (encEs a)) st := by have := Mi.atI_nat [z, W.int fn, .tup (encEs a)] 2; simp
  have al : mLen [.tup (encEs a)] st = .ok (.int ((encEs a).length : Int)) st := by simp [sizeLine_eq, hlz]
  by_cases hfn : fn < (pr.length : Int)
  · have hpx := h.pix h0 hfn
    have hnge : ¬ ((pr.length : Int) ≤ fn) := by omega
    by_cases hpc : pr.getD fn.toNat 0 = ((encEs a).length : Int)
    · have ne1 := mNe_ii (pr.getD fn.toNat 0) ((encEs a).length : Int) st
      rw [hpc] at ne1 hpx
      simp only [decide_true, Bool.not_true] at ne1
      refine seq_nx (ifS_false (st1 := st) (by simp [-mNe, -mIx, -mLen, hob, hpl, a1, a2, al, hnge, hpx, ne1]) rfl) ?_
      have hlc := lcR_exs (k := k) (e := e0_L_called (R_L_called f 0) (R_L_called f 1)) (s := [some (.ref v), some (.tup [z, .int fn, .tup (encEs a)]), none]) (st := st) (v := 2) (rE sz pr op) a ha (fun x hx => by
        have := ih' x hx
        simp [e0_L_called]
        exact this)
      have hml := mLc_lcR (it := mITup (mOp mIx (mVar 1) (mC (W.int 2)))) (n := .nm 2) (t := mYes) (e := e0_L_called (R_L_called f 0) (R_L_called f 1)) (vs := [2]) (s := [some (.ref v), some (.tup [z, .int fn, .tup (encEs a)]), none]) (st := st) (st1 := st) (ws := encEs a) (by simp) (by omega) hlc
      have hal := notin_false (exBools (rE sz pr op) a) st
      rw [exBools_all] at hal
      have hcf : callOk pr fn (encEs a).length = true := by unfold callOk; rw [decide_eq_true hfn, decide_eq_true hpc]; rfl
      simp [-mLc, -mNotIn, hml, hal, hcf]
    · have ne1 := mNe_ii (pr.getD fn.toNat 0) ((encEs a).length : Int) st
      rw [decide_eq_false hpc] at ne1
      simp only [Bool.not_false] at ne1
      have hcf : callOk pr fn (encEs a).length = false := by unfold callOk; rw [decide_eq_false hpc, Bool.and_false]
      refine seq_rt (ifS_true (st1 := st) (by
        generalize pr.getD fn.toNat 0 = pv at *
        simp [-mNe, -mIx, -mLen, hob, hpl, a1, a2, al, hnge, hpx, ne1]) ?_)
      simp [hcf]
  · have hge : (pr.length : Int) ≤ fn := by omega
    have hcf : callOk pr fn (encEs a).length = false := by unfold callOk; rw [decide_eq_false hfn]; rfl
    refine seq_rt (ifS_true (st1 := st) (by simp [-mNe, -mIx, -mLen, hob, hpl, a1, hge]) ?_)
    simp [hcf]
theorem l_value (h : LuAt N v zs prW sz pr g op nx st) : ∀ (k : Nat) (e : Ex), fineE k e → ∀ f, 2 * k ≤ f → m_L_e_holds f [.ref v, encE e] st = .ok (.bl (rE sz pr op e)) st
  | 0, e, he, _, _ => by cases e <;> simp [fineE] at he
  | k + 1, e, he, f, hf => by
    obtain ⟨f, rfl⟩ : ∃ g, f = g + 1 := ⟨f - 1, by omega⟩
    have ih : ∀ e, fineE k e → R_L_called f 1 [.ref v, encE e] st = .ok (.bl (rE sz pr op e)) st := fun e he => l_value h k e he f (by omega)
    have hob := h.ob
    have hz := h.hz
    have hz8 := h.sz8
    refine def_rt (n := 2) (k := 1) rfl ?_
    show b_L_e_holds (R_L_called f 0) (R_L_called f 1) [some (.ref v), some (encE e), none] st = _
    unfold b_L_e_holds
    have cut1 : ∀ (a : W) (xs : List W), cutW (a :: xs) (some 1) none = xs := fun a xs => by have := cutB (a :: xs) 1; simpa using this
    have walk : ∀ (a : W) (xs : List W) (bs : List Bool), encE e = .tup (a :: xs) → xs.length ≤ 10 → lcR (NT.m (.nm 2)) (t0_L_e_holds (R_L_called f 0) (R_L_called f 1)) (e1_L_e_holds (R_L_called f 0) (R_L_called f 1)) [some (.ref v), some (encE e), none] xs st = .ok (bs.map W.bl) st →
        (mRet (mOp mNotIn (mC (W.bl false)) (mLc (mITup (mSl (mVar 1) (mPart (mC (W.int 1))) mNoPart)) (.nm 2) (t0_L_e_holds (R_L_called f 0) (R_L_called f 1)) (e1_L_e_holds (R_L_called f 0) (R_L_called f 1)) [2]))) [some (.ref v), some (encE e), none] st = .rt (.bl (bs.all id)) st := fun a xs bs he hl hlc => by
      have hml := mLc_lcR (it := mITup (mSl (mVar 1) (mPart (mC (W.int 1))) mNoPart)) (n := .nm 2) (t := t0_L_e_holds (R_L_called f 0) (R_L_called f 1)) (e := e1_L_e_holds (R_L_called f 0) (R_L_called f 1)) (vs := [2]) (s := [some (.ref v), some (encE e), none]) (st := st) (st1 := st) (ws := xs) (by rw [he]; simp [cut1]) (by omega) hlc
      have hal := notin_false bs st
      generalize encE e = EE at *
      simp [-mLc, -mNotIn, hml, hal]
    have tk : ∀ (x : Ex), t0_L_e_holds (R_L_called f 0) (R_L_called f 1) ([some (.ref v), some (encE e), none].set 2 (some (encE x))) st = .ok true st := fun x => by
      obtain ⟨xs, hx⟩ := enc_tup x
      simp [t0_L_e_holds, hx]
    have vl : ∀ (x : Ex), fineE k x → e1_L_e_holds (R_L_called f 0) (R_L_called f 1) ([some (.ref v), some (encE e), none].set 2 (some (encE x))) st = .ok (.bl (rE sz pr op x)) st := fun x hx => by
      have := ih x hx
      simp [e1_L_e_holds, this]
    have sk : ∀ (x : W), (∃ i, x = .int i) ∨ (∃ z, x = .str z) → t0_L_e_holds (R_L_called f 0) (R_L_called f 1) ([some (.ref v), some (encE e), none].set 2 (some x)) st = .ok false st := fun x hx => by
      rcases hx with ⟨i, rfl⟩ | ⟨i, rfl⟩ <;> simp [t0_L_e_holds]
    cases e with
    | slot i =>
      have hi := mIn_ints i op st
      refine seq_rt (ifS_true (st1 := st) (by simp [encE, atI0]) ?_)
      simp [-mIn, encE, hob, hi, rE]
    | call fn a =>
      simp only [fineE] at he
      obtain ⟨f, rfl⟩ : ∃ g, f = g + 1 := ⟨f - 1, by omega⟩
      have hc := l_called_of h k f (fun e he => l_value h k e he f (by omega)) fn a he.1 he.2.1 he.2.2 (.str "call")
      refine seq_nx (ifS_false (st1 := st) (by simp [encE, atI0]) rfl) (seq_rt (ifS_true (st1 := st) (by simp [encE, atI0]) ?_))
      simp [encE, hc, rE]
    | tab t x =>
      simp only [fineE] at he
      have hzl : zs.length ≤ 16777216 := by omega
      have hzz : (zs.length : Int) = (sz : Int) := by omega
      refine seq_nx (ifS_false (st1 := st) (by simp [encE, atI0]) rfl) (seq_nx (ifS_false (st1 := st) (by simp [encE, atI0]) rfl) ?_)
      by_cases hlt : t < (sz : Int)
      · refine seq_nx (ifS_false (st1 := st) (by simp [encE, atI0, hob, sizeLine_eq, hzl, hzz, show ¬ (sz : Int) ≤ t by omega]) rfl) ?_
        rw [walk (.str "at") [.int t, encE x] [rE sz pr op x] rfl (by simp) (lcR_skip (sk _ (.inl ⟨_, rfl⟩)) (lcR_take (tk x) (vl x he.2) rfl))]
        simp [rE, hlt]
      · refine seq_rt (ifS_true (st1 := st) (by simp [encE, atI0, hob, sizeLine_eq, hzl, hzz, show (sz : Int) ≤ t by omega]) ?_)
        simp [rE, hlt]
    | num i =>
      refine seq_nx (ifS_false (st1 := st) (by simp [encE, atI0]) rfl) (seq_nx (ifS_false (st1 := st) (by simp [encE, atI0]) rfl) (seq_nx (ifS_false (st1 := st) (by simp [encE, atI0]) rfl) ?_))
      rw [walk (.str "number") [.int i] [] rfl (by simp) (lcR_skip (sk _ (.inl ⟨_, rfl⟩)) rfl)]
      simp [rE]
    | inputs =>
      refine seq_nx (ifS_false (st1 := st) (by simp [encE, atI0]) rfl) (seq_nx (ifS_false (st1 := st) (by simp [encE, atI0]) rfl) (seq_nx (ifS_false (st1 := st) (by simp [encE, atI0]) rfl) ?_))
      rw [walk (.str "inputs") [] [] rfl (by simp) rfl]
      simp [rE]
    | input x =>
      simp only [fineE] at he
      refine seq_nx (ifS_false (st1 := st) (by simp [encE, atI0]) rfl) (seq_nx (ifS_false (st1 := st) (by simp [encE, atI0]) rfl) (seq_nx (ifS_false (st1 := st) (by simp [encE, atI0]) rfl) ?_))
      rw [walk (.str "input") [encE x] [rE sz pr op x] rfl (by simp) (lcR_take (tk x) (vl x he) rfl)]
      simp [rE]
    | not x =>
      simp only [fineE] at he
      refine seq_nx (ifS_false (st1 := st) (by simp [encE, atI0]) rfl) (seq_nx (ifS_false (st1 := st) (by simp [encE, atI0]) rfl) (seq_nx (ifS_false (st1 := st) (by simp [encE, atI0]) rfl) ?_))
      rw [walk (.str "not") [encE x] [rE sz pr op x] rfl (by simp) (lcR_take (tk x) (vl x he) rfl)]
      simp [rE]
    | op s a b =>
      simp only [fineE] at he
      refine seq_nx (ifS_false (st1 := st) (by simp [encE, atI0]) rfl) (seq_nx (ifS_false (st1 := st) (by simp [encE, atI0]) rfl) (seq_nx (ifS_false (st1 := st) (by simp [encE, atI0]) rfl) ?_))
      rw [walk (.str "op") [.str s, encE a, encE b] [rE sz pr op a, rE sz pr op b] rfl (by simp) (lcR_skip (sk _ (.inr ⟨_, rfl⟩)) (lcR_take (tk a) (vl a he.2.1) (lcR_take (tk b) (vl b he.2.2) rfl)))]
      simp [rE]
    | lg o a b =>
      simp only [fineE] at he
      refine seq_nx (ifS_false (st1 := st) (by cases o <;> simp [lgS, encE, atI0]) rfl) (seq_nx (ifS_false (st1 := st) (by cases o <;> simp [lgS, encE, atI0]) rfl) (seq_nx (ifS_false (st1 := st) (by cases o <;> simp [lgS, encE, atI0]) rfl) ?_))
      rw [walk (.str (lgS o)) [encE a, encE b] [rE sz pr op a, rE sz pr op b] rfl (by simp) (lcR_take (tk a) (vl a he.1) (lcR_take (tk b) (vl b he.2) rfl))]
      simp [rE]
end
end Gn

namespace Gn
open PySem L2 Mi
structure LRes (N N2 : Int) (v : Nat) (zs : List W) (prW : W) (sz : Nat) (pr : List Int) (g : Bool) (r : Option (List Int × Int)) (st : Sto) (out : Out W) : Prop where
  ex : ∃ (st' : Sto) (op' : List Int) (nx' : Int), out = .ok (.bl r.isSome) st' ∧ LuAt N2 v zs prW sz pr g op' nx' st' ∧ Only [v] st st' ∧ ∀ p, r = some p → p = (op', nx') ∧ nx' ≤ N
section
variable {N : Int} {v sz : Nat} {zs : List W} {prW : W} {pr : List Int} {g : Bool} {op : List Int} {nx : Int} {st : Sto}
theorem LuAt.mono {N2 : Int} (h : LuAt N v zs prW sz pr g op nx st) (hN : N ≤ N2) : LuAt N2 v zs prW sz pr g op nx st :=
  ⟨h.ob, h.pw, h.pn, h.hz, h.sz8, h.pr8, h.ol, by have := h.nl; omega⟩
theorem LuAt.put {N2 : Int} {op' : List Int} {nx' : Int} (h : LuAt N v zs prW sz pr g op nx st) (h1 : (op'.length : Int) ≤ nx') (h2 : nx' ≤ N2) : LuAt N2 v zs prW sz pr g op' nx' (st.set v (ruD zs prW g op' nx')) := by
  refine ⟨List.getElem?_set_self (List.getElem?_eq_some_iff.mp h.ob).1, ?_, h.pn, h.hz, h.sz8, h.pr8, h1, h2⟩
  have e := h.pw
  have hn := h.pn
  cases prW with
  | ref p =>
    have hpv : v ≠ p := fun z => hn (by rw [z])
    simp only [asL, List.getElem?_set_ne hpv] at e ⊢
    exact e
  | _ => exact e
theorem lres_same (h : LuAt N v zs prW sz pr g op nx st) {N2 : Int} (hN : N ≤ N2) (b : Bool) {out : Out W} (e : out = .ok (.bl b) st) : LRes N N2 v zs prW sz pr g (if b = true then some (op, nx) else none) st out :=
  ⟨st, op, nx, by rw [e]; cases b <;> rfl, h.mono hN, Only.refl _ _, fun p hp => by
    split at hp
    · cases hp; exact ⟨rfl, h.nl⟩
    · cases hp⟩
end
section
variable {K v sz : Nat} {zs : List W} {prW : W} {pr : List Int} {g : Bool} (hK : K ≤ 1000)
include hK
theorem lbody_run {k n : Nat} {r0 r1 : MF} {N N2 : Int} (hN2 : N ≤ N2) (hs : ∀ s, fineS k s → Pw K n (encS s) → ∀ (st : Sto) (op : List Int) (nx : Int), LuAt N v zs prW sz pr g op nx st → LRes N N2 v zs prW sz pr g (rS sz pr g s op nx) st (r1 [.ref v, encS s] st)) (w : W) :
    ∀ (ss : Sms), fineSs k ss → (∀ x ∈ encSs ss, Pw K n x) → ∀ (st : Sto) (op : List Int) (nx : Int) (x2 x3 : Option W), LuAt N v zs prW sz pr g op nx st →
      (∃ (st' : Sto) (op' : List Int) (nx' : Int) (y3 : Option W), rB sz pr g ss op nx = some (op', nx') ∧ runL (mGN 3) (l0_L_b_holds r0 r1) (encSs ss) [some (.ref v), some w, x2, x3] st = .nx [some (.ref v), some w, x2, y3] st' ∧ LuAt N v zs prW sz pr g op' nx' st' ∧ Only [v] st st') ∨
      (∃ (st' : Sto) (op' : List Int) (nx' : Int), rB sz pr g ss op nx = none ∧ runL (mGN 3) (l0_L_b_holds r0 r1) (encSs ss) [some (.ref v), some w, x2, x3] st = .rt (.bl false) st' ∧ LuAt N2 v zs prW sz pr g op' nx' st' ∧ Only [v] st st')
  | .nil, _, _, st, op, nx, x2, x3, h => .inl ⟨st, op, nx, x3, by rw [rB], rfl, h, Only.refl _ _⟩
  | .cons s r, hf, hp, st, op, nx, x2, x3, h => by
    rw [fineSs] at hf
    rw [encSs] at hp ⊢
    obtain ⟨st1, op1, nx1, e1, h1, k1, q1⟩ := (hs s hf.1 (hp _ (by simp)) st op nx h).ex
    have hg : (mGN 3) (encS s) [some (.ref v), some w, x2, x3] st = some ([some (.ref v), some w, x2, some (encS s)], st) := rfl
    have hl : l0_L_b_holds r0 r1 [some (.ref v), some w, x2, some (encS s)] st = if (rS sz pr g s op nx).isSome = true then .nx [some (.ref v), some w, x2, some (encS s)] st1 else .rt (.bl false) st1 := by
      unfold l0_L_b_holds
      cases hb : (rS sz pr g s op nx).isSome with
      | true => rw [hb] at e1; simp [e1]
      | false => rw [hb] at e1; simp [e1]
    cases hr : rS sz pr g s op nx with
    | none =>
      rw [hr] at hl
      refine .inr ⟨st1, op1, nx1, by rw [rB, hr], ?_, h1, k1⟩
      simp only [runL, hg, hl]
      rfl
    | some p =>
      rw [hr] at hl
      obtain ⟨rfl, hn1⟩ := q1 p hr
      have h1' : LuAt N v zs prW sz pr g op1 nx1 st1 := ⟨h1.ob, h1.pw, h1.pn, h1.hz, h1.sz8, h1.pr8, h1.ol, hn1⟩
      rcases lbody_run hN2 hs w r hf.2 (fun x hx => hp x (by simp [hx])) st1 op1 nx1 x2 (some (encS s)) h1' with ⟨st2, op2, nx2, y3, e2, e3, h2, k2⟩ | ⟨st2, op2, nx2, e2, e3, h2, k2⟩
      · refine .inl ⟨st2, op2, nx2, y3, by rw [rB, hr]; exact e2, ?_, h2, k1.trans k2 (fun a ha _ => ha)⟩
        simp only [runL, hg, hl]
        exact e3
      · refine .inr ⟨st2, op2, nx2, by rw [rB, hr]; exact e2, ?_, h2, k1.trans k2 (fun a ha _ => ha)⟩
        simp only [runL, hg, hl]
        exact e3
theorem l_body {k n f : Nat} {N N2 : Int} (hN2 : N ≤ N2) (hs : ∀ s, fineS k s → Pw K n (encS s) → ∀ (st : Sto) (op : List Int) (nx : Int), LuAt N v zs prW sz pr g op nx st → LRes N N2 v zs prW sz pr g (rS sz pr g s op nx) st (m_L_s_holds f [.ref v, encS s] st))
    (ss : Sms) (hf : fineSs k ss) (hp : Pw K (n + 1) (.tup (encSs ss))) (st : Sto) (op : List Int) (nx : Int) (h : LuAt N v zs prW sz pr g op nx st) :
    LRes N N2 v zs prW sz pr g ((rB sz pr g ss op nx).map fun p => (op, p.2)) st (m_L_b_holds (f + 1) [.ref v, .tup (encSs ss)] st) := by
  have hob := h.ob
  have hd : ∀ (w : W) (st' : Sto), b_L_b_holds (R_L_b_holds f 0) (R_L_b_holds f 1) [some (.ref v), some (.tup (encSs ss)), none, none] st = .rt w st' → m_L_b_holds (f + 1) [.ref v, .tup (encSs ss)] st = .ok w st' := fun w st' e => def_rt (n := 2) (k := 2) rfl e
  rcases lbody_run hK (r0 := R_L_b_holds f 0) (r1 := R_L_b_holds f 1) hN2 hs (.tup (encSs ss)) ss hf hp.2 st op nx (some (.lst (op.map W.int))) none h with ⟨st2, op2, nx2, y3, e2, e3, h2, k2⟩ | ⟨st2, op2, nx2, e2, e3, h2, k2⟩
  · have hob2 := h2.ob
    obtain ⟨t, ht⟩ := rB_prefix sz pr g ss op nx op2 nx2 e2
    have hol : (op.length : Int) ≤ nx2 := by have := h2.ol; rw [ht] at this; simp at this; omega
    refine ⟨st2.set v (ruD zs prW g op nx2), op, nx2, hd _ _ ?_, (h2.put hol h2.nl).mono hN2, k2.trans (Only.set (A := [v]) (by simp)) (fun a ha _ => ha), fun p hp => ?_⟩
    · unfold b_L_b_holds
      refine seq_nx (s1 := [some (.ref v), some (.tup (encSs ss)), some (.lst (op.map W.int)), none]) (st1 := st) (by simp [hob]) ?_
      refine seq_nx (mFor_runL (ws := encSs ss) (st1 := st) (by simp) e3) ?_
      refine seq_nx (s1 := [some (.ref v), some (.tup (encSs ss)), some (.lst (op.map W.int)), y3]) (st1 := st2.set v (ruD zs prW g op nx2)) (by simp [hob2, rp2, sizeLine_eq]) ?_
      simp [e2]
    · rw [e2] at hp
      simp at hp
      exact ⟨hp.symm, h2.nl⟩
  · refine ⟨st2, op2, nx2, hd _ _ ?_, h2, k2, fun p hp => ?_⟩
    · unfold b_L_b_holds
      refine seq_nx (s1 := [some (.ref v), some (.tup (encSs ss)), some (.lst (op.map W.int)), none]) (st1 := st) (by simp [hob]) ?_
      refine seq_rt (st1 := st2) ?_
      rw [mFor_runL (ws := encSs ss) (st1 := st) (by simp) e3, e2]
      rfl
    · rw [e2] at hp; cases hp
theorem l_stmt : ∀ (k : Nat), k ≤ 13 → ∀ (N : Int), 1000001 ≤ N → N + ((2 ^ k : Nat) : Int) ≤ 16000000 → ∀ (s : Sm'), fineS k s → ∀ (n : Nat), Pw K n (encS s) → ∀ (f : Nat), 2 * k ≤ f → ∀ (st : Sto) (op : List Int) (nx : Int), LuAt N v zs prW sz pr g op nx st → LRes N (N + ((2 ^ k : Nat) : Int)) v zs prW sz pr g (rS sz pr g s op nx) st (m_L_s_holds f [.ref v, encS s] st)
  | 0, _, _, _, _, s, hs, _, _, _, _, _, _, _, _ => by cases s <;> simp [fineS] at hs
  | k + 1, hk, N, hN, hNm, s, hs, n, hp, f, hf, st, op, nx, h => by
    obtain ⟨f, rfl⟩ : ∃ g, f = g + 1 := ⟨f - 1, by omega⟩
    have hpk : (0 : Int) < ((2 ^ k : Nat) : Int) := by have := Nat.two_pow_pos k; omega
    have hpk1 : ((2 ^ (k + 1) : Nat) : Int) = ((2 ^ k : Nat) : Int) + ((2 ^ k : Nat) : Int) := by
      have : 2 ^ (k + 1) = 2 ^ k + 2 ^ k := by rw [Nat.pow_succ]; omega
      rw [this, Int.natCast_add]
    have hN2 : N ≤ N + ((2 ^ (k + 1) : Nat) : Int) := by omega
    have hob := h.ob
    have hz := h.hz
    have hz8 := h.sz8
    have hol := h.ol
    have hnl := h.nl
    have val : ∀ e, fineE k e → m_L_e_holds 40 [.ref v, encE e] st = .ok (.bl (rE sz pr op e)) st := fun e he => l_value h k e he 40 (by omega)
    have hd : ∀ (w : W) (st' : Sto), b_L_s_holds (R_L_b_holds f 0) (R_L_b_holds f 1) [some (.ref v), some (encS s), none, none] st = .rt w st' → m_L_s_holds (f + 1) [.ref v, encS s] st = .ok w st' := fun w st' e => def_rt (n := 2) (k := 2) rfl e
    have okp : ∀ (b : Bool) (r : Option (List Int × Int)), r = (if b = true then some (op, nx) else none) → b_L_s_holds (R_L_b_holds f 0) (R_L_b_holds f 1) [some (.ref v), some (encS s), none, none] st = .rt (.bl b) st → LRes N (N + ((2 ^ (k + 1) : Nat) : Int)) v zs prW sz pr g r st (m_L_s_holds (f + 1) [.ref v, encS s] st) := fun b r e1 e2 => by
      rw [e1]; exact lres_same h hN2 b (hd _ _ e2)
    have bod : ∀ (N : Int), 1000001 ≤ N → N + ((2 ^ k : Nat) : Int) ≤ 16000000 → ∀ (ss : Sms), fineSs k ss → ∀ (m : Nat), Pw K m (.tup (encSs ss)) → ∀ (st : Sto) (op : List Int) (nx : Int), LuAt N v zs prW sz pr g op nx st → 2 * k + 1 ≤ f → LRes N (N + ((2 ^ k : Nat) : Int)) v zs prW sz pr g ((rB sz pr g ss op nx).map fun p => (op, p.2)) st (R_L_b_holds f 0 [.ref v, .tup (encSs ss)] st) := fun N hN1 hN2 ss hss m hm st op nx h hf' => by
      obtain ⟨f, rfl⟩ : ∃ g, f = g + 1 := ⟨f - 1, by omega⟩
      obtain ⟨m, rfl, -, -⟩ := Pw.sub hK hm
      exact l_body hK (k := k) (n := m) (f := f) (by omega) (fun s hs hp st op nx h => l_stmt k (by omega) N hN1 hN2 s hs m hp f (by omega) st op nx h) ss hss hm st op nx h
    -- the walk over the expressions
    have cut1 : ∀ (a : W) (xs : List W), cutW (a :: xs) (some 1) none = xs := fun a xs => by have := cutB (a :: xs) 1; simpa using this
    have walk : ∀ (a : W) (xs : List W) (bs : List Bool), encS s = .tup (a :: xs) → xs.length ≤ 10 → lcR (NT.m (.nm 3)) (t1_L_s_holds (R_L_b_holds f 0) (R_L_b_holds f 1)) (e2_L_s_holds (R_L_b_holds f 0) (R_L_b_holds f 1)) [some (.ref v), some (encS s), none, none] xs st = .ok (bs.map W.bl) st →
        (mTest (mOp mIn (mC (W.bl false)) (mLc (mITup (mSl (mVar 1) (mPart (mC (W.int 1))) mNoPart)) (.nm 3) (t1_L_s_holds (R_L_b_holds f 0) (R_L_b_holds f 1)) (e2_L_s_holds (R_L_b_holds f 0) (R_L_b_holds f 1)) [3]))) [some (.ref v), some (encS s), none, none] st = .ok (!bs.all id) st := fun a xs bs he hl hlc => by
      have hml := mLc_lcR (it := mITup (mSl (mVar 1) (mPart (mC (W.int 1))) mNoPart)) (n := .nm 3) (t := t1_L_s_holds (R_L_b_holds f 0) (R_L_b_holds f 1)) (e := e2_L_s_holds (R_L_b_holds f 0) (R_L_b_holds f 1)) (vs := [3]) (s := [some (.ref v), some (encS s), none, none]) (st := st) (st1 := st) (ws := xs) (by rw [he]; simp [cut1]) (by omega) hlc
      have hal := in_false bs st
      generalize encS s = EE at *
      simp [-mLc, -mIn, hml, hal]
    have tk : ∀ (x : Ex), t1_L_s_holds (R_L_b_holds f 0) (R_L_b_holds f 1) ([some (.ref v), some (encS s), none, none].set 3 (some (encE x))) st = .ok true st := fun x => by
      obtain ⟨xs, hx⟩ := enc_tup x
      simp [t1_L_s_holds, hx]
    have vl : ∀ (x : Ex), fineE k x → e2_L_s_holds (R_L_b_holds f 0) (R_L_b_holds f 1) ([some (.ref v), some (encS s), none, none].set 3 (some (encE x))) st = .ok (.bl (rE sz pr op x)) st := fun x hx => by
      have := val x hx
      simp [e2_L_s_holds, this]
    have sk : ∀ (i : Int), t1_L_s_holds (R_L_b_holds f 0) (R_L_b_holds f 1) ([some (.ref v), some (encS s), none, none].set 3 (some (.int i))) st = .ok false st := fun i => by simp [t1_L_s_holds]
    cases s with
    | lt b i e =>
      simp only [fineS] at hs
      have hi : i ≤ 1000000 := by
        obtain ⟨m, rfl, -, hx⟩ := Pw.sub hK hp
        have : Pw K m (.int i) := hx _ (by simp)
        cases m <;> exact this.2
      have hw := walk (.str (ltS b)) [.int i, encE e] [rE sz pr op e] rfl (by simp) (lcR_skip (sk i) (lcR_take (tk e) (vl e hs.2) rfl))
      cases hr : rE sz pr op e with
      | false =>
        rw [hr] at hw
        refine okp false _ (by cases b <;> (rw [rS]; simp [hr])) ?_
        unfold b_L_s_holds
        refine seq_nx (ifS_false (st1 := st) (by cases b <;> simp [ltS, encS, atI0]) rfl) (seq_nx (ifS_false (st1 := st) (by cases b <;> simp [ltS, encS, atI0, sizeLine_eq]) rfl) (seq_nx (ifS_false (st1 := st) (by cases b <;> simp [ltS, encS, atI0]) rfl) (seq_rt (ifS_true (st1 := st) (by rw [hw]; rfl) ?_))))
        simp
      | true =>
        rw [hr] at hw
        have pre : ∀ o, (mSeq (mIfS (mTest (mOp mEq (mOp mIx (mVar 1) (mC (W.int 0))) (mC (W.str "set")))) (mRet (mOp mIn (mOp mIx (mVar 1) (mC (W.int 1))) (mDGet (mVar 0) (mC (W.str "open"))))) mSkip)
  (mSeq (mIfS (mTest (mOp mEq (mOp mIx (mVar 1) (mC (W.int 0))) (mC (W.str "let")))) (mSeq (mDPut (mVar 0) (mC (W.str "open")) (mOp mAdd (mDGet (mVar 0) (mC (W.str "open"))) (mLst (mCons (mOp mIx (mVar 1) (mC (W.int 1))) mNil))))
  (mSeq (mDPut (mVar 0) (mC (W.str "next")) (mOp mAdd (mDGet (mVar 0) (mC (W.str "next"))) (mC (W.int 1))))
  (mRet (mOp mEq (mOp mIx (mVar 1) (mC (W.int 1))) (mOp mSub (mDGet (mVar 0) (mC (W.str "next"))) (mC (W.int 1))))))) mSkip)
  (mRet (mC (W.bl true))))) [some (.ref v), some (encS (.lt b i e)), none, none] st = o → b_L_s_holds (R_L_b_holds f 0) (R_L_b_holds f 1) [some (.ref v), some (encS (.lt b i e)), none, none] st = o := fun o ho => by
          unfold b_L_s_holds
          refine seq_nx (ifS_false (st1 := st) (by cases b <;> simp [ltS, encS, atI0]) rfl) (seq_nx (ifS_false (st1 := st) (by cases b <;> simp [ltS, encS, atI0, sizeLine_eq]) rfl) (seq_nx (ifS_false (st1 := st) (by cases b <;> simp [ltS, encS, atI0]) rfl) (seq_nx (ifS_false (st1 := st) (by rw [hw]; rfl) rfl) ho)))
        cases b with
        | false =>
          refine okp (decide (i ∈ op)) _ (by rw [rS]; simp [hr]) (pre _ ?_)
          refine seq_rt (ifS_true (st1 := st) (by simp [ltS, encS, atI0]) ?_)
          have hin := mIn_ints i op st
          simp [-mIn, ltS, encS, hob, hin]
        | true =>
          have hvl := (List.getElem?_eq_some_iff.mp hob).1
          obtain ⟨s1, hs1⟩ : ∃ s1, s1 = st.set v (ruD zs prW g (op ++ [i]) nx) := ⟨_, rfl⟩
          have o1 : s1[v]? = some (ruD zs prW g (op ++ [i]) nx) := by rw [hs1, List.getElem?_set_self hvl]
          have hset : s1.set v (ruD zs prW g (op ++ [i]) (nx + 1)) = st.set v (ruD zs prW g (op ++ [i]) (nx + 1)) := by rw [hs1, List.set_set]
          have hrs : rS sz pr g (.lt true i e) op nx = (if i = nx then some (op ++ [i], nx + 1) else none) := by rw [rS]; simp [hr]
          rw [hrs]
          refine ⟨st.set v (ruD zs prW g (op ++ [i]) (nx + 1)), op ++ [i], nx + 1, hd _ _ (pre _ ?_), h.put (by simp; omega) (by omega), Only.set (by simp), fun p hp' => ?_⟩
          · refine seq_nx (ifS_false (st1 := st) (by simp [ltS, encS, atI0]) rfl) (seq_rt (ifS_true (st1 := st) (by simp [ltS, encS, atI0]) ?_))
            have olz : op.length + 1 ≤ 16777216 := by omega
            have q2 := rp2 (zs := zs) (prW := prW) (g := g) (op := op) (op' := op ++ [i]) (nx := nx)
            rw [List.map_append] at q2
            have q3 := rp3 (zs := zs) (prW := prW) (g := g) (op := op ++ [i]) (nx := nx) (nx' := nx + 1)
            refine seq_nx (s1 := [some (.ref v), some (encS (.lt true i e)), none, none]) (st1 := s1) (by
              rw [hs1]
              simp [ltS, encS, hob, sizeLine_eq, olz]
              simp at q2
              rw [q2]) ?_
            refine seq_nx (s1 := [some (.ref v), some (encS (.lt true i e)), none, none]) (st1 := st.set v (ruD zs prW g (op ++ [i]) (nx + 1))) (by
              simp [ltS, encS, o1, sizeLine_eq, q3, hset]) ?_
            have o2 : (st.set v (ruD zs prW g (op ++ [i]) (nx + 1)))[v]? = some (ruD zs prW g (op ++ [i]) (nx + 1)) := List.getElem?_set_self hvl
            have e1 : nx + 1 - 1 = nx := by omega
            generalize st.set v (ruD zs prW g (op ++ [i]) (nx + 1)) = S2 at *
            by_cases hin : i = nx
            · simp [ltS, encS, o2, e1, hin]
            · simp [ltS, encS, o2, e1, hin]
          · split at hp'
            · rename_i hin
              cases hp'
              exact ⟨rfl, by omega⟩
            · cases hp'
    | put t a b =>
      simp only [fineS] at hs
      have hzl : zs.length ≤ 16777216 := by omega
      have hzz : (zs.length : Int) = (sz : Int) := by omega
      refine okp (decide (t < (sz : Int)) && (rE sz pr op a && rE sz pr op b)) _ (by rw [rS]; simp) ?_
      unfold b_L_s_holds
      refine seq_nx (ifS_false (st1 := st) (by simp [encS, atI0]) rfl) (seq_nx (ifS_false (st1 := st) (by simp [encS, atI0, sizeLine_eq]) rfl) ?_)
      by_cases hlt : t < (sz : Int)
      · refine seq_nx (ifS_false (st1 := st) (by simp [encS, atI0, hob, sizeLine_eq, hzl, hzz, show ¬ (sz : Int) ≤ t by omega]) rfl) ?_
        have hw := walk (.str "put") [.int t, encE a, encE b] [rE sz pr op a, rE sz pr op b] rfl (by simp) (lcR_skip (sk t) (lcR_take (tk a) (vl a hs.2.1) (lcR_take (tk b) (vl b hs.2.2) rfl)))
        cases hab : (rE sz pr op a && rE sz pr op b) with
        | false =>
          have : (!([rE sz pr op a, rE sz pr op b].all id)) = true := by
            cases ha : rE sz pr op a <;> cases hb : rE sz pr op b <;> simp [ha, hb] at hab ⊢
          rw [this] at hw
          refine seq_rt (ifS_true (st1 := st) hw ?_)
          simp
        | true =>
          have : (!([rE sz pr op a, rE sz pr op b].all id)) = false := by
            cases ha : rE sz pr op a <;> cases hb : rE sz pr op b <;> simp [ha, hb] at hab ⊢
          rw [this] at hw
          refine seq_nx (ifS_false (st1 := st) hw rfl) (seq_nx (ifS_false (st1 := st) (by simp [encS, atI0]) rfl) (seq_nx (ifS_false (st1 := st) (by simp [encS, atI0]) rfl) ?_))
          simp [hlt]
      · refine seq_rt (ifS_true (st1 := st) (by simp [encS, atI0, hob, sizeLine_eq, hzl, hzz, show (sz : Int) ≤ t by omega]) ?_)
        simp [hlt]
    | tell e =>
      simp only [fineS] at hs
      refine okp (rE sz pr op e) _ (by rw [rS]) ?_
      unfold b_L_s_holds
      have hw := walk (.str "tell") [encE e] [rE sz pr op e] rfl (by simp) (lcR_take (tk e) (vl e hs) rfl)
      refine seq_nx (ifS_false (st1 := st) (by simp [encS, atI0]) rfl) (seq_nx (ifS_false (st1 := st) (by simp [encS, atI0, sizeLine_eq]) rfl) (seq_nx (ifS_false (st1 := st) (by simp [encS, atI0]) rfl) ?_))
      cases hr : rE sz pr op e with
      | false =>
        rw [hr] at hw
        refine seq_rt (ifS_true (st1 := st) (by rw [hw]; rfl) ?_)
        simp
      | true =>
        rw [hr] at hw
        refine seq_nx (ifS_false (st1 := st) (by rw [hw]; rfl) rfl) (seq_nx (ifS_false (st1 := st) (by simp [encS, atI0]) rfl) (seq_nx (ifS_false (st1 := st) (by simp [encS, atI0]) rfl) ?_))
        simp
    | give e =>
      simp only [fineS] at hs
      refine okp (g && rE sz pr op e) _ (by rw [rS]; simp) ?_
      unfold b_L_s_holds
      have hw := walk (.str "give") [encE e] [rE sz pr op e] rfl (by simp) (lcR_take (tk e) (vl e hs) rfl)
      refine seq_nx (ifS_false (st1 := st) (by simp [encS, atI0]) rfl) (seq_nx (ifS_false (st1 := st) (by simp [encS, atI0, sizeLine_eq]) rfl) ?_)
      cases g with
      | false =>
        refine seq_rt (ifS_true (st1 := st) (by simp [encS, atI0, hob]) ?_)
        simp
      | true =>
        refine seq_nx (ifS_false (st1 := st) (by simp [encS, atI0, hob]) rfl) ?_
        cases hr : rE sz pr op e with
        | false =>
          rw [hr] at hw
          refine seq_rt (ifS_true (st1 := st) (by rw [hw]; rfl) ?_)
          simp
        | true =>
          rw [hr] at hw
          refine seq_nx (ifS_false (st1 := st) (by rw [hw]; rfl) rfl) (seq_nx (ifS_false (st1 := st) (by simp [encS, atI0]) rfl) (seq_nx (ifS_false (st1 := st) (by simp [encS, atI0]) rfl) ?_))
          simp
    | run fn a =>
      simp only [fineS] at hs
      have hc : m_L_called 40 [.ref v, .tup [.str "do", .int fn, .tup (encEs a)]] st = .ok (.bl (callOk pr fn (encEs a).length && rEs sz pr op a)) st := l_called_of h k 39 (fun e he => l_value h k e he 39 (by omega)) fn a hs.1 hs.2.1 hs.2.2 (.str "do")
      refine okp (callOk pr fn (encEs a).length && rEs sz pr op a) _ (by rw [rS]; simp) ?_
      unfold b_L_s_holds
      refine seq_rt (ifS_true (st1 := st) (by simp [encS, atI0]) ?_)
      simp [encS, hc]
    | ite c a b =>
      simp only [fineS] at hs
      have v1 := val c hs.1
      obtain ⟨m, rfl, -, hx⟩ := Pw.sub hK hp
      have hat1 : atI [W.str "if", encE c, .tup (encSs a), .tup (encSs b)] 1 = some (encE c) := by have := Mi.atI_nat [W.str "if", encE c, .tup (encSs a), .tup (encSs b)] 1; simpa using this
      have hEE : encS (.ite c a b) = .tup [W.str "if", encE c, .tup (encSs a), .tup (encSs b)] := rfl
      cases hr : rE sz pr op c with
      | false =>
        rw [hr] at v1
        refine okp false _ (by rw [rS]; simp [hr]) ?_
        unfold b_L_s_holds
        refine seq_nx (ifS_false (st1 := st) (by simp [encS, atI0]) rfl) (seq_rt (ifS_true (st1 := st) (by simp [encS, atI0, sizeLine_eq]) ?_))
        rw [hEE]
        simp [hat1, v1]
      | true =>
        rw [hr] at v1
        obtain ⟨st1, op1, nx1, e1, h1, k1, q1⟩ := (bod N hN (by omega) a hs.2.1 m (hx _ (by simp)) st op nx h (by omega)).ex
        obtain ⟨st2, op2, nx2, e2, h2, k2, q2⟩ := (bod (N + ((2 ^ k : Nat) : Int)) (by omega) (by omega) b hs.2.2 m (hx _ (by simp)) st1 op1 nx1 h1 (by omega)).ex
        have hcut : cutW [W.str "if", encE c, .tup (encSs a), .tup (encSs b)] (some 2) none = [.tup (encSs a), .tup (encSs b)] := by have := cutB [W.str "if", encE c, .tup (encSs a), .tup (encSs b)] 2; simpa using this
        have two : ∀ pa pb, rB sz pr g a op nx = some pa → rB sz pr g b op pa.2 = some pb → op1 = op ∧ nx1 = pa.2 ∧ nx1 ≤ N := fun pa pb ea eb => by
          have := q1 (op, pa.2) (by rw [ea]; rfl)
          simp only [Prod.mk.injEq] at this
          exact ⟨this.1.1.symm, this.1.2.symm, this.2⟩
        refine ⟨st2, op2, nx2, hd _ _ ?_, h2.mono (by omega), k1.trans k2 (fun a ha _ => ha), fun p hp' => ?_⟩
        · have hbool : (rS sz pr g (.ite c a b) op nx).isSome = (((rB sz pr g a op nx).map fun p => (op, p.2)).isSome && ((rB sz pr g b op1 nx1).map fun p => (op1, p.2)).isSome) := by
            rw [rS, hr]
            simp only [if_true]
            cases ha : rB sz pr g a op nx with
            | none => simp
            | some pa =>
              have := (q1 (op, pa.2) (by rw [ha]; rfl)).1
              simp only [Prod.mk.injEq] at this
              rw [← this.1, ← this.2]
              cases hb : rB sz pr g b op pa.2 with
              | none => simp [hb]
              | some pb => simp [hb]
          rw [hbool]
          generalize ((rB sz pr g a op nx).map fun p => (op, p.2)).isSome = b1 at *
          generalize ((rB sz pr g b op1 nx1).map fun p => (op1, p.2)).isSome = b2 at *
          rw [hEE]
          have hml := mLc_lcR (it := mITup (mSl (mVar 1) (mPart (mC (W.int 2))) mNoPart)) (n := .nm 2) (t := mYes) (e := e0_L_s_holds (R_L_b_holds f 0) (R_L_b_holds f 1)) (vs := [2]) (s := [some (.ref v), some (.tup [W.str "if", encE c, .tup (encSs a), .tup (encSs b)]), none, none]) (st := st) (st1 := st) (st2 := st2) (ws := [.tup (encSs a), .tup (encSs b)]) (ys := [.bl b1, .bl b2]) (by simp [hcut]) (by simp) (lcR_cons (st1 := st1) (by simp [wipeW, e0_L_s_holds, e1]) (lcR_cons (st1 := st2) (by simp [wipeW, e0_L_s_holds, e2]) rfl))
          have hal := notin_false [b1, b2] st2
          simp only [List.map_cons, List.map_nil] at hal
          unfold b_L_s_holds
          refine seq_nx (ifS_false (st1 := st) (by simp [atI0]) rfl) (seq_rt (ifS_true (st1 := st) (by simp [atI0, sizeLine_eq]) ?_))
          simp [-mLc, -mNotIn, hat1, v1, hml, hal]
        · rw [rS, hr] at hp'
          simp only [if_true] at hp'
          split at hp'
          · rename_i u1 n1 ea
            split at hp'
            · rename_i u2 n2 eb
              obtain ⟨t1, t2, t3⟩ := two _ _ ea eb
              have h1' : LuAt N v zs prW sz pr g op1 nx1 st1 := ⟨h1.ob, h1.pw, h1.pn, h1.hz, h1.sz8, h1.pr8, h1.ol, t3⟩
              obtain ⟨st2', op2', nx2', e2', h2', k2', q2'⟩ := (bod N hN (by omega) b hs.2.2 m (hx _ (by simp)) st1 op1 nx1 h1' (by omega)).ex
              have z1 := (q2 (op1, n2) (by rw [t1, t2, eb]; rfl)).1
              have z2 := (q2' (op1, n2) (by rw [t1, t2, eb]; rfl))
              simp only [Prod.mk.injEq] at z1 z2
              cases hp'
              refine ⟨by rw [← t1, z1.1, z1.2], ?_⟩
              rw [← z1.2, z2.1.2]; exact z2.2
            · cases hp'
          · cases hp'
    | whl c b =>
      simp only [fineS] at hs
      have v1 := val c hs.1
      obtain ⟨m, rfl, -, hx⟩ := Pw.sub hK hp
      have hat1 : atI [W.str "while", encE c, .tup (encSs b)] 1 = some (encE c) := by have := Mi.atI_nat [W.str "while", encE c, .tup (encSs b)] 1; simpa using this
      have hEE : encS (.whl c b) = .tup [W.str "while", encE c, .tup (encSs b)] := rfl
      cases hr : rE sz pr op c with
      | false =>
        rw [hr] at v1
        refine okp false _ (by rw [rS]; simp [hr]) ?_
        unfold b_L_s_holds
        refine seq_nx (ifS_false (st1 := st) (by simp [encS, atI0]) rfl) (seq_rt (ifS_true (st1 := st) (by simp [encS, atI0, sizeLine_eq]) ?_))
        rw [hEE]
        simp [hat1, v1]
      | true =>
        rw [hr] at v1
        obtain ⟨st1, op1, nx1, e1, h1, k1, q1⟩ := (bod N hN (by omega) b hs.2 m (hx _ (by simp)) st op nx h (by omega)).ex
        have hcut : cutW [W.str "while", encE c, .tup (encSs b)] (some 2) none = [.tup (encSs b)] := by have := cutB [W.str "while", encE c, .tup (encSs b)] 2; simpa using this
        have hrs : rS sz pr g (.whl c b) op nx = (rB sz pr g b op nx).map fun p => (op, p.2) := by
          rw [rS, hr]
          simp only [if_true]
          cases rB sz pr g b op nx with
          | none => rfl
          | some p => rfl
        rw [hrs]
        refine ⟨st1, op1, nx1, hd _ _ ?_, h1.mono (by omega), k1, q1⟩
        generalize ((rB sz pr g b op nx).map fun p => (op, p.2)).isSome = b1 at *
        rw [hEE]
        have hml := mLc_lcR (it := mITup (mSl (mVar 1) (mPart (mC (W.int 2))) mNoPart)) (n := .nm 2) (t := mYes) (e := e0_L_s_holds (R_L_b_holds f 0) (R_L_b_holds f 1)) (vs := [2]) (s := [some (.ref v), some (.tup [W.str "while", encE c, .tup (encSs b)]), none, none]) (st := st) (st1 := st) (st2 := st1) (ws := [.tup (encSs b)]) (ys := [.bl b1]) (by simp [hcut]) (by simp) (lcR_cons (st1 := st1) (by simp [wipeW, e0_L_s_holds, e1]) rfl)
        have hal := notin_false [b1] st1
        simp only [List.map_cons, List.map_nil] at hal
        unfold b_L_s_holds
        refine seq_nx (ifS_false (st1 := st) (by simp [atI0]) rfl) (seq_rt (ifS_true (st1 := st) (by simp [atI0, sizeLine_eq]) ?_))
        simp [-mLc, -mNotIn, hat1, v1, hml, hal]
end
end Gn

namespace Gn
open PySem L2 Mi
/-! ### the program's judge whole -/
def tupLe (m : Nat) : W → Bool
  | .tup xs => decide (xs.length ≤ m)
  | _ => false
def tupIs (m : Nat) : W → Bool
  | .tup xs => decide (xs.length = m)
  | _ => false
theorem tupLe_no {m : Nat} {w : W} (h : ¬ ∃ zs, w = .tup zs ∧ zs.length ≤ m) : tupLe m w = false := by
  cases w with
  | tup zs => simp only [tupLe, decide_eq_false_iff_not]; exact fun e => h ⟨zs, rfl, e⟩
  | _ => rfl
theorem tupIs_no {m : Nat} {w : W} (h : ¬ ∃ zs, w = .tup zs ∧ zs.length = m) : tupIs m w = false := by
  cases w with
  | tup zs => simp only [tupIs, decide_eq_false_iff_not]; exact fun e => h ⟨zs, rfl, e⟩
  | _ => rfl
theorem len4 {α : Type} {xs : List α} (h : xs.length = 4) : ∃ a b c d, xs = [a, b, c, d] := by
  match xs, h with
  | [a, b, c, d], _ => exact ⟨a, b, c, d, rfl⟩
section
variable {K : Nat} (hK : K ≤ 1000)
include hK
theorem t_is_list2 {n : Nat} {w : W} (hw : Pw K n w) (st : Sto) (m : Nat) : m_is_list [w, .int (m : Int)] st = .ok (.bl (tupLe m w)) st := by
  have := t_is_list hw st hK m
  cases w <;> exact this
theorem t_is_row2 {n : Nat} {w : W} (hw : Pw K n w) (st : Sto) (m : Nat) : m_is_row [w, .int (m : Int)] st = .ok (.bl (tupIs m w)) st := by
  have := t_is_row hw st hK m
  cases w <;> exact this
theorem t_is_function {n : Nat} {w : W} (hn : n ≤ 40) (hw : Pw K n w) (st : Sto) (most : Int) : m_is_function [w, .int most] st = .ok (.bl (shapeF most w)) st := by
  have e1 := t_is_row2 hK hw st 3
  have e1' : m_is_row [w, .int 3] st = _ := e1
  refine def_rt (n := 2) (k := 0) rfl ?_
  show b_is_function [some w, some (.int most)] st = _
  unfold b_is_function
  by_cases h3 : ∃ x y z, w = .tup [x, y, z]
  · obtain ⟨x, y, z, rfl⟩ := h3
    obtain ⟨m, rfl, -, hx⟩ := Pw.sub hK hw
    have px := hx x (by simp)
    have py := hx y (by simp)
    have pz := hx z (by simp)
    have e2 := t_is_integer px st 0 most
    have e3 := t_is_number py st
    have e4 := body_ok hK (sh_ok hK 12 (by omega)) (by omega) pz st (f := 40) (by omega)
    have e4' : m_is_body 40 [z, .int 1] st = .ok (.bl (bodyW (sh 12 true) z)) st := e4
    have a0 := atI0 x [y, z]
    have a1 : atI [x, y, z] 1 = some y := by have := Mi.atI_nat [x, y, z] 1; simpa using this
    have a2 : atI [x, y, z] 2 = some z := by have := Mi.atI_nat [x, y, z] 2; simpa using this
    have e1' : m_is_row [_, _] st = .ok (.bl true) st := e1'
    cases h1 : inRow 0 most x with
    | false =>
      rw [h1] at e2
      refine seq_rt (ifS_true (st1 := st) (by simp [e1', a0, e2]) ?_)
      simp [shapeF, h1]
    | true =>
      rw [h1] at e2
      cases h2 : isNumW y with
      | false =>
        rw [h2] at e3
        refine seq_rt (ifS_true (st1 := st) (by simp [e1', a0, e2, a1, e3]) ?_)
        simp [shapeF, h2]
      | true =>
        rw [h2] at e3
        refine seq_nx (ifS_false (st1 := st) (by simp [e1', a0, e2, a1, e3]) rfl) ?_
        simp [a2, e4', shapeF, h1, h2]
  · have hf : tupIs 3 w = false := tupIs_no (fun ⟨zs, hz, hl⟩ => by
      obtain ⟨a, b, c, rfl⟩ := len3 hl
      exact h3 ⟨a, b, c, hz⟩)
    have hs : shapeF most w = false := by
      unfold shapeF
      split
      · rename_i x y z
        exact absurd ⟨x, y, z, rfl⟩ h3
      · rfl
    rw [hf] at e1'
    refine seq_rt (ifS_true (st1 := st) (by simp [e1']) ?_)
    simp [hs]
theorem t_is_shaped {n : Nat} {w : W} (hn : n ≤ 40) (hw : Pw K n w) (st : Sto) : m_is_shaped [w] st = .ok (.bl (shpW w)) st := by
  have e1 := t_is_row2 hK hw st 4
  have e1' : m_is_row [w, .int 4] st = _ := e1
  refine def_rt (n := 1) (k := 2) rfl ?_
  show b_is_shaped [some w, none, none] st = _
  unfold b_is_shaped
  have bad : ∀ (t : MT) (rest : MS), t [some w, none, none] st = .ok true st → shpW w = false → mSeq (mIfS t (mRet (mC (W.bl false))) mSkip) rest [some w, none, none] st = .rt (.bl (shpW w)) st := fun t rest ht hs => by
    rw [hs]
    exact seq_rt (ifS_true (st1 := st) ht (by simp))
  by_cases h4 : ∃ c x y z, w = .tup [c, x, y, z]
  · obtain ⟨c, x, y, z, rfl⟩ := h4
    obtain ⟨m, rfl, -, hx⟩ := Pw.sub hK hw
    have pc := hx c (by simp)
    have px := hx x (by simp)
    have py := hx y (by simp)
    have pz := hx z (by simp)
    have a0 := atI0 c [x, y, z]
    have a1 : atI [c, x, y, z] 1 = some x := by have := Mi.atI_nat [c, x, y, z] 1; simpa using this
    have a2 : atI [c, x, y, z] 2 = some y := by have := Mi.atI_nat [c, x, y, z] 2; simpa using this
    have a3 : atI [c, x, y, z] 3 = some z := by have := Mi.atI_nat [c, x, y, z] 3; simpa using this
    have e1' : m_is_row [_, _] st = .ok (.bl true) st := e1'
    obtain ⟨bb, e2, hbb⟩ := ne_str (n := m) (by omega) pc "checked" (by simp) st
    cases bb with
    | true =>
      refine bad _ _ (by simp [-mNe, e1', a0, e2]) ?_
      have hc : c ≠ .str "checked" := fun e => by have := hbb.mpr e; cases this
      unfold shpW
      split
      · rename_i s zs fs mn heq
        cases heq
        have : ¬ s = "checked" := fun e => hc (by rw [e])
        simp [this]
      · rfl
    | false =>
      have hc : c = .str "checked" := hbb.mp rfl
      subst hc
      refine seq_nx (ifS_false (st1 := st) (by simp [-mNe, e1', a0, e2]) rfl) ?_
      have l1 := t_is_list2 hK px st 8
      have l1' : m_is_list [x, .int 8] st = _ := l1
      have l2 := t_is_list2 hK py st 8
      have l2' : m_is_list [y, .int 8] st = _ := l2
      by_cases hxt : ∃ zs, x = .tup zs ∧ zs.length ≤ 8
      · obtain ⟨zs, rfl, hz8⟩ := hxt
        by_cases hyt : ∃ fs, y = .tup fs ∧ fs.length ≤ 8
        · obtain ⟨fs, rfl, hf8⟩ := hyt
          rw [show tupLe 8 (.tup zs) = true from decide_eq_true hz8] at l1'
          rw [show tupLe 8 (.tup fs) = true from decide_eq_true hf8] at l2'
          obtain ⟨m', rfl, -, hzx⟩ := Pw.sub hK px
          obtain ⟨m2, hm2, -, hfx⟩ := Pw.sub hK py
          cases hm2
          refine seq_nx (ifS_false (st1 := st) (by simp [a1, l1', a2, l2', w_MOST_TABLES, w_MOST_FUNCTIONS]) rfl) ?_
          have c1 := all_comp hK (it := mITup (mOp mIx (mVar 0) (mC (W.int 1)))) (e := e0_is_shaped) (v := 1) (s := [some (.tup [.str "checked", .tup zs, .tup fs, z]), none, none]) (st := st) (ys := zs) (by simp [a1]) (by omega) (inRow 1 64) (fun q hq => by
            have := t_is_integer (hzx q hq) st 1 64
            simp [e0_is_shaped, wipeW, w_MOST_SIZE, this])
          have c2 := all_comp hK (it := mITup (mOp mIx (mVar 0) (mC (W.int 2)))) (e := e1_is_shaped) (v := 2) (s := [some (.tup [.str "checked", .tup zs, .tup fs, z]), none, none]) (st := st) (ys := fs) (by simp [a2]) (by omega) (shapeF 4) (fun q hq => by
            have := t_is_function hK (n := m') (by omega) (hfx q hq) st 4
            simp [e1_is_shaped, wipeW, w_MOST_PARAMS, this])
          have b1 := mAll_bl (zs.map (inRow 1 64)) st
          rw [List.map_map] at b1
          have b1' : mAll [.lst (zs.map fun y => W.bl (inRow 1 64 y))] st = _ := b1
          have b2 := mAll_bl (fs.map (shapeF 4)) st
          rw [List.map_map] at b2
          have b2' : mAll [.lst (fs.map fun y => W.bl (shapeF 4 y))] st = _ := b2
          have z1 : ((zs.map (inRow 1 64)).all id) = zs.all (inRow 1 64) := by rw [List.all_map]; rfl
          have z2 : ((fs.map (shapeF 4)).all id) = fs.all (shapeF 4) := by rw [List.all_map]; rfl
          rw [z1] at b1'
          rw [z2] at b2'
          have f0 := t_is_function hK (n := m' + 1) (by omega) pz st 0
          cases h1 : zs.all (inRow 1 64) with
          | false =>
            rw [h1] at b1'
            refine bad _ _ (by simp [-mLc, -mAll, c1, b1']) ?_
            simp [shpW, h1]
          | true =>
            rw [h1] at b1'
            refine seq_nx (ifS_false (st1 := st) (by simp [-mLc, -mAll, c1, b1']) rfl) ?_
            cases h2 : fs.all (shapeF 4) with
            | false =>
              rw [h2] at b2'
              have hs : shpW (.tup [.str "checked", .tup zs, .tup fs, z]) = false := by simp only [shpW, h2]; simp
              rw [hs]
              simp [-mLc, -mAll, c2, b2']
            | true =>
              rw [h2] at b2'
              have hs : shpW (.tup [.str "checked", .tup zs, .tup fs, z]) = shapeF 0 z := by simp only [shpW, h1, h2, decide_eq_true hz8, decide_eq_true hf8]; simp
              rw [hs]
              simp [-mLc, -mAll, c2, b2', a3, f0]
        · have hl : tupLe 8 y = false := tupLe_no hyt
          rw [hl] at l2'
          rw [show tupLe 8 (.tup zs) = true from decide_eq_true hz8] at l1'
          refine bad _ _ (by simp [a1, l1', a2, l2', w_MOST_TABLES, w_MOST_FUNCTIONS]) ?_
          unfold shpW
          split
          · rename_i s zs fs mn heq
            cases heq
            have : ¬ fs.length ≤ 8 := fun e => hyt ⟨fs, rfl, e⟩
            simp [this]
          · rfl
      · have hl : tupLe 8 x = false := tupLe_no hxt
        rw [hl] at l1'
        refine bad _ _ (by simp [a1, l1', w_MOST_TABLES]) ?_
        unfold shpW
        split
        · rename_i s zs fs mn heq
          cases heq
          have : ¬ zs.length ≤ 8 := fun e => hxt ⟨zs, rfl, e⟩
          simp [this]
        · rfl
  · have hf : tupIs 4 w = false := tupIs_no (fun ⟨zs, hz, hl⟩ => by
      obtain ⟨a, b, c, d, rfl⟩ := len4 hl
      exact h4 ⟨a, b, c, d, hz⟩)
    rw [hf] at e1'
    refine bad _ _ (by simp [e1']) ?_
    unfold shpW
    split
    · rename_i s zs fs mn
      exact absurd ⟨_, _, _, _, rfl⟩ h4
    · rfl
end
end Gn

namespace Gn
open PySem L2 Mi
theorem t_rinit (st : Sto) (zs : List W) (pr : List Int) (g : Bool) (a : Int) (h0 : 0 ≤ a) (h1 : a ≤ 1000000) (r : List W) :
    m_Rules_init [.ref st.length, .tup zs, .lst (pr.map W.int), .tup (.int a :: r), .bl g] (st ++ [.ins 9 []]) = .ok .non (st ++ [.ins 9 (ruF (.tup zs) pr g a (st.length + 1) (.tup (.int a :: r))), .lst ((rngI a).map W.int)]) := by
  have gH : ∀ (o : Ob) (T : Sto), (st ++ o :: T)[st.length]? = some o := fun o T => by simp
  have sH : ∀ (o o' : Ob) (T : Sto), (st ++ o :: T).set st.length o' = st ++ o' :: T := fun o o' T => by simp
  have hr := rngI_w a
  refine def_nx (s' := [some (.ref st.length), some (.tup zs), some (.lst (pr.map W.int)), some (.tup (.int a :: r)), some (.bl g)]) (n := 5) (k := 0) rfl ?_
  show b_Rules_init [some (.ref st.length), some (.tup zs), some (.lst (pr.map W.int)), some (.tup (.int a :: r)), some (.bl g)] (st ++ [.ins 9 []]) = _
  unfold b_Rules_init
  refine seq_nx (s1 := [some (.ref st.length), some (.tup zs), some (.lst (pr.map W.int)), some (.tup (.int a :: r)), some (.bl g)]) (st1 := st ++ [.ins 9 [("_sizes", .tup zs)]]) (by simp [gH, sH, putW]) ?_
  refine seq_nx (s1 := [some (.ref st.length), some (.tup zs), some (.lst (pr.map W.int)), some (.tup (.int a :: r)), some (.bl g)]) (st1 := st ++ [.ins 9 [("_sizes", .tup zs), ("_params", .lst (pr.map W.int))]]) (by simp [gH, sH, putW]) ?_
  refine seq_nx (s1 := [some (.ref st.length), some (.tup zs), some (.lst (pr.map W.int)), some (.tup (.int a :: r)), some (.bl g)]) (st1 := st ++ [.ins 9 [("_sizes", .tup zs), ("_params", .lst (pr.map W.int)), ("_may_give", .bl g)]]) (by simp [gH, sH, putW]) ?_
  refine seq_nx (s1 := [some (.ref st.length), some (.tup zs), some (.lst (pr.map W.int)), some (.tup (.int a :: r)), some (.bl g)]) (st1 := st ++ [.ins 9 [("_sizes", .tup zs), ("_params", .lst (pr.map W.int)), ("_may_give", .bl g), ("_next", .int a)]]) (by simp [gH, sH, putW, atI0]) ?_
  refine seq_nx (s1 := [some (.ref st.length), some (.tup zs), some (.lst (pr.map W.int)), some (.tup (.int a :: r)), some (.bl g)]) (st1 := st ++ [.ins 9 [("_sizes", .tup zs), ("_params", .lst (pr.map W.int)), ("_may_give", .bl g), ("_next", .int a), ("_open", .ref (st.length + 1))], .lst ((rngI a).map W.int)]) (by simp [mListRgS, gH, sH, putW, atI0, h0, h1, hr]) ?_
  simp [gH, sH, putW]
section
variable {K : Nat} (hK : K ≤ 1000)
include hK
theorem t_hold {st : Sto} {zs : List W} {pr : List Int} {g : Bool} {n : Nat} {w : W} {most : Int} (hw : Pw K n w) (hs : shapeF most w = true) (hm : most ≤ 1000000) (hz : zs.length ≤ 1000) (hp : pr.length ≤ 1000) :
    ∃ (st1 st2 : Sto) (b : Bool) (fs : Fl), m_Rules_init [.ref st.length, .tup zs, .lst (pr.map W.int), w, .bl g] (st ++ [.ins 9 []]) = .ok .non st1 ∧ st1[st.length]? = some (.ins 9 fs) ∧ List.lookup (Str.ofString "hold") fs = none ∧ m_Rules_hold [.ref st.length] st1 = .ok (.bl b) st2 ∧ Kp st.length st st2 ∧ (b = true ↔ RuleF zs.length pr g w) := by
  have main : ∀ (a b : Int) (ss : Sms), w = .tup [.int a, .int b, .tup (encSs ss)] → fineSs 12 ss → 0 ≤ a → a ≤ most → ∃ (st2 : Sto), m_Rules_hold [.ref st.length] (st ++ [.ins 9 (ruF (.tup zs) pr g a (st.length + 1) w), .lst ((rngI a).map W.int)]) = .ok (.bl (match rB zs.length pr g ss (rngI a) a with | some p => decide (p.2 = b) | none => false)) st2 ∧ Kp st.length st st2 := fun a b ss e hf h0 ha => by
    have hru : RuAt st.length st.length zs.length pr g w (rngI a) a (st ++ [.ins 9 (ruF (.tup zs) pr g a (st.length + 1) w), .lst ((rngI a).map W.int)]) := by
      refine ⟨⟨st.length + 1, zs, by simp, by simp, rfl, by omega⟩, Nat.le_refl _, hz, hp, by rw [rngI_len]; omega, by omega⟩
    obtain ⟨m, rfl, -, hx⟩ := Pw.sub hK (e ▸ hw)
    have hbody : Pw K m (.tup (encSs ss)) := hx _ (by simp)
    obtain ⟨m', rfl, -, -⟩ := Pw.sub hK hbody
    obtain ⟨st2, op2, nx2, e1, h2, k2, q2⟩ := (t_body hK (k := 12) (n := m') (f := 39) (fun s hs hp st op nx h => t_stmt hK 12 (by omega) s hs m' hp 39 (by omega) st op nx h) ss hf hbody _ _ _ hru).ex
    refine ⟨st2, ?_, (Kp.app (Nat.le_refl _) _).trans k2⟩
    obtain ⟨o2, zs2, hR2, -⟩ := h2.ex
    have hR : (st ++ [.ins 9 (ruF (.tup zs) pr g a (st.length + 1) w), .lst ((rngI a).map W.int)])[st.length]? = some (.ins 9 (ruF (.tup zs) pr g a (st.length + 1) w)) := by simp
    have e1' : m_Rules_body 40 [.ref st.length, .tup (encSs ss)] (st ++ [.ins 9 (ruF (.tup zs) pr g a (st.length + 1) w), .lst ((rngI a).map W.int)]) = .ok (.bl (((rB zs.length pr g ss (rngI a) a).map fun p => (rngI a, p.2)).isSome)) st2 := e1
    generalize (st ++ [.ins 9 (ruF (.tup zs) pr g a (st.length + 1) w), .lst ((rngI a).map W.int)]) = S1 at *
    subst e
    have a1 : atI [W.int a, .int b, .tup (encSs ss)] 1 = some (.int b) := by have := Mi.atI_nat [W.int a, .int b, .tup (encSs ss)] 1; simpa using this
    have a2 : atI [W.int a, .int b, .tup (encSs ss)] 2 = some (.tup (encSs ss)) := by have := Mi.atI_nat [W.int a, .int b, .tup (encSs ss)] 2; simpa using this
    refine def_rt (n := 1) (k := 0) rfl ?_
    show b_Rules_hold [some (.ref st.length)] S1 = _
    unfold b_Rules_hold
    cases hr : rB zs.length pr g ss (rngI a) a with
    | none =>
      rw [hr] at e1'
      simp at e1'
      simp [hR, a2, e1']
    | some p =>
      rw [hr] at e1'
      simp at e1'
      have := q2 (rngI a, p.2) (by rw [hr]; rfl)
      simp only [Prod.mk.injEq] at this
      have t2 : p.2 = nx2 := this.2
      simp [hR, a2, e1', hR2, a1, t2]
  obtain ⟨a, b, ss, e, hf, h0, ha, hb⟩ := shapeF_ex hs
  obtain ⟨st2, e2, k2⟩ := main a b ss e hf h0 ha
  have hi := t_rinit st zs pr g a h0 (by omega) [.int b, .tup (encSs ss)]
  rw [← e] at hi
  refine ⟨_, st2, _, ruF (.tup zs) pr g a (st.length + 1) w, hi, by simp, rfl, e2, k2, ?_, ?_⟩
  · intro h
    split at h
    · rename_i p hp
      refine ⟨a, b, ss, p.1, e, hf, ?_⟩
      rw [hp]
      simp only [decide_eq_true_eq] at h
      rw [← h]
    · cases h
  · rintro ⟨a', b', ss', op, e', hf', hr'⟩
    have ea : a' = a := by rw [e] at e'; injection e' with e'; injection e' with e'; injection e' with e'; exact e'.symm
    have eb : b' = b := by rw [e] at e'; injection e' with e'; injection e' with _ e'; injection e' with e'; injection e' with e'; exact e'.symm
    subst ea
    subst eb
    obtain ⟨st3, e3, k3⟩ := main a' b' ss' e' hf' h0 ha
    rw [e2] at e3
    injection e3 with e3 e4
    injection e3 with e3
    rw [e3, hr']
    simp
/-- the judge's turns over the functions -/
theorem t_turns {zs fs : List W} {m : Nat} (hz : zs.length ≤ 1000) (hf : fs.length ≤ 1000) (hx : ∀ f ∈ fs, Pw K m f) (hs : ∀ f ∈ fs, shapeF 4 f = true) (v0 v1 v3 v4 : Option W) (B : Nat) : ∀ (r i : Nat), i + r = fs.length → ∀ (st : Sto) (x6 x7 : Option W), B ≤ st.length →
    (∃ (st' : Sto) (y6 y7 : Option W), runL (mGTup 2 (mGCons (mGN 7) (mGCons (mGN 6) mGNil))) l1_is_checked (((List.range fs.length).map fun i => W.tup [.int (i : Nat), fs.getD i .non]).drop i) [v0, v1, some (.tup zs), v3, v4, some (.lst ((fs.map par).map W.int)), x6, x7] st = .nx [v0, v1, some (.tup zs), v3, v4, some (.lst ((fs.map par).map W.int)), y6, y7] st' ∧ Kp B st st' ∧ ∀ j f, i ≤ j → fs[j]? = some f → RuleF zs.length ((fs.take j).map par) true f) ∨
    (∃ (st' : Sto), runL (mGTup 2 (mGCons (mGN 7) (mGCons (mGN 6) mGNil))) l1_is_checked (((List.range fs.length).map fun i => W.tup [.int (i : Nat), fs.getD i .non]).drop i) [v0, v1, some (.tup zs), v3, v4, some (.lst ((fs.map par).map W.int)), x6, x7] st = .rt (.bl false) st' ∧ Kp B st st' ∧ ∃ j f, fs[j]? = some f ∧ ¬ RuleF zs.length ((fs.take j).map par) true f)
  | 0, i, hi, st, x6, x7, hB => by
    refine .inl ⟨st, x6, x7, ?_, Kp.refl _ _, fun j f hj h => ?_⟩
    · rw [List.drop_of_length_le (by simp; omega)]; rfl
    · have := (List.getElem?_eq_some_iff.mp h).1; omega
  | r + 1, i, hi, st, x6, x7, hB => by
    have hil : i < fs.length := by omega
    have hg : fs.getD i .non = fs[i] := by simp [List.getD, hil]
    have hfm : fs[i] ∈ fs := List.getElem_mem _
    have hdrop : ((List.range fs.length).map fun i => W.tup [.int (i : Nat), fs.getD i .non]).drop i = W.tup [.int (i : Nat), fs[i]] :: ((List.range fs.length).map fun i => W.tup [.int (i : Nat), fs.getD i .non]).drop (i + 1) := by
      rw [List.drop_eq_getElem_cons (by simpa using hil)]
      simp [hil]
    rw [hdrop]
    obtain ⟨st1, st2, b, fl, e1, e2, e3, e4, k2, hb⟩ := t_hold hK (st := st) (zs := zs) (pr := (fs.take i).map par) (g := true) (hx _ hfm) (hs _ hfm) (by omega) hz (by simp; omega)
    have hcut : cutW ((fs.map par).map W.int) none (some (i : Int)) = ((fs.take i).map par).map W.int := by rw [cutA, ← List.map_take, ← List.map_take]
    have hgg : (mGTup 2 (mGCons (mGN 7) (mGCons (mGN 6) mGNil))) (W.tup [.int (i : Nat), fs[i]]) [v0, v1, some (.tup zs), v3, v4, some (.lst ((fs.map par).map W.int)), x6, x7] st = some ([v0, v1, some (.tup zs), v3, v4, some (.lst ((fs.map par).map W.int)), some fs[i], some (.int (i : Int))], st) := by simp
    have hrun : l1_is_checked [v0, v1, some (.tup zs), v3, v4, some (.lst ((fs.map par).map W.int)), some fs[i], some (.int (i : Int))] st = if b = true then .nx [v0, v1, some (.tup zs), v3, v4, some (.lst ((fs.map par).map W.int)), some fs[i], some (.int (i : Int))] st2 else .rt (.bl false) st2 := by
      unfold l1_is_checked
      generalize (fs.map par).map W.int = PW at *
      generalize ((fs.take i).map par).map W.int = PT at *
      cases b <;> simp [hcut, e1, e2, e3, e4]
    cases b with
    | false =>
      refine .inr ⟨st2, ?_, k2.mono hB, i, fs[i], List.getElem?_eq_getElem hil, fun z => ?_⟩
      · simp only [runL, hgg, hrun]
        rfl
      · have := hb.mpr z; cases this
    | true =>
      have hrule := hb.mp rfl
      have hl2 := k2.le
      rcases t_turns hz hf hx hs v0 v1 v3 v4 B r (i + 1) (by omega) st2 (some fs[i]) (some (.int (i : Int))) (by omega) with ⟨st3, y6, y7, e5, k3, hall⟩ | ⟨st3, e5, k3, hbad⟩
      · refine .inl ⟨st3, y6, y7, ?_, (k2.mono hB).trans k3, fun j f hj h => ?_⟩
        · simp only [runL, hgg, hrun]
          exact e5
        · by_cases e : i = j
          · subst e
            rw [List.getElem?_eq_getElem hil] at h
            cases h
            exact hrule
          · exact hall j f (by omega) h
      · refine .inr ⟨st3, ?_, (k2.mono hB).trans k3, hbad⟩
        simp only [runL, hgg, hrun]
        exact e5
theorem t_is_checked {n : Nat} {w : W} (hn : n ≤ 40) (hw : Pw K n w) (st : Sto) : ∃ (b : Bool) (st' : Sto), m_is_checked [w] st = .ok (.bl b) st' ∧ Kp st.length st st' ∧ (b = true ↔ CheckedW w) := by
  have e1 := t_is_shaped hK hn hw st
  cases hs : shpW w with
  | false =>
    rw [hs] at e1
    refine ⟨false, st, def_rt (n := 1) (k := 7) rfl ?_, Kp.refl _ _, ⟨(fun h => by cases h), (fun ⟨_, _, _, _, h, _⟩ => by rw [hs] at h; cases h)⟩⟩
    show b_is_checked [some w, none, none, none, none, none, none, none] st = _
    unfold b_is_checked
    refine seq_rt (ifS_true (st1 := st) (by simp [e1]) ?_)
    simp
  | true =>
    rw [hs] at e1
    obtain ⟨zs, fs, mn, rfl, hz, hf, hfs, hmn⟩ : ∃ (zs fs : List W) (mn : W), w = .tup [.str "checked", .tup zs, .tup fs, mn] ∧ zs.length ≤ 8 ∧ fs.length ≤ 8 ∧ fs.all (shapeF 4) = true ∧ shapeF 0 mn = true := by
      unfold shpW at hs
      split at hs
      · rename_i s zs fs mn
        simp only [Bool.and_eq_true, decide_eq_true_eq] at hs
        obtain ⟨rfl, ⟨h1, h2⟩, -, h3, h4⟩ := hs
        exact ⟨zs, fs, mn, rfl, h1, h2, h3, h4⟩
      · cases hs
    obtain ⟨m, rfl, -, hx⟩ := Pw.sub hK hw
    have pf := hx (.tup fs) (by simp)
    have pm := hx mn (by simp)
    obtain ⟨m2, rfl, -, hfx⟩ := Pw.sub hK pf
    have hfa : ∀ f ∈ fs, shapeF 4 f = true := List.all_eq_true.mp hfs
    have pre : ∀ (o : SO), (mSeq (mFor (mIEnum2 (mCons (mVar 3) mNil)) (mGTup 2 (mGCons (mGN 7) (mGCons (mGN 6) mGNil))) l1_is_checked)
  (mRet (mMeth 9 "hold" 1 m_Rules_hold (mMake 9 5 m_Rules_init (mCons (mVar 2) (mCons (mVar 5) (mCons (mVar 4) (mCons (mC (W.bl false)) mNil))))) mNil))) [some (.tup [.str "checked", .tup zs, .tup fs, mn]), some (.str "checked"), some (.tup zs), some (.tup fs), some mn, some (.lst ((fs.map par).map W.int)), none, none] st = o → b_is_checked [some (.tup [.str "checked", .tup zs, .tup fs, mn]), none, none, none, none, none, none, none] st = o := fun o ho => by
      unfold b_is_checked
      refine seq_nx (ifS_false (st1 := st) (by simp [e1]) rfl) ?_
      refine seq_nx (s1 := [some (.tup [.str "checked", .tup zs, .tup fs, mn]), some (.str "checked"), some (.tup zs), some (.tup fs), some mn, none, none, none]) (st1 := st) (by simp) ?_
      have z := mLc_of (it := mITup (mVar 3)) (n := .nm 6) (t := mYes) (e := e0_is_checked) (vs := [6]) (s := [some (.tup [.str "checked", .tup zs, .tup fs, mn]), some (.str "checked"), some (.tup zs), some (.tup fs), some mn, none, none, none]) (st := st) (st1 := st) (ws := fs) (by simp) (by omega) (fun _ => true) (fun f => .int (par f)) (fun f hf => ⟨_, rfl, rfl, fun _ => by
        obtain ⟨a, b, ss, rfl, -⟩ := shapeF_ex (hfa f hf)
        simp [e0_is_checked, wipeW, atI0, par]⟩)
      have z2 : (fs.filter fun _ => true).map (fun f => W.int (par f)) = (fs.map par).map W.int := by simp [List.filter_eq_self.mpr]
      rw [z2] at z
      refine seq_nx (s1 := [some (.tup [.str "checked", .tup zs, .tup fs, mn]), some (.str "checked"), some (.tup zs), some (.tup fs), some mn, some (.lst ((fs.map par).map W.int)), none, none]) (st1 := st) (by simp [-mLc, z]) ?_
      exact ho
    have hit : mIEnum2 (mCons (mVar 3) mNil) [some (.tup [.str "checked", .tup zs, .tup fs, mn]), some (.str "checked"), some (.tup zs), some (.tup fs), some mn, some (.lst ((fs.map par).map W.int)), none, none] st = .ok (.vals ((List.range fs.length).map fun i => W.tup [.int (i : Nat), fs.getD i .non])) st := by simp
    rcases t_turns hK (by omega : zs.length ≤ 1000) (by omega : fs.length ≤ 1000) hfx hfa (some (.tup [.str "checked", .tup zs, .tup fs, mn])) (some (.str "checked")) (some (.tup fs)) (some mn) st.length fs.length 0 (by omega) st none none (Nat.le_refl _) with ⟨st1, y6, y7, e2, k1, hall⟩ | ⟨st1, e2, k1, j, f, hj, hbad⟩
    · rw [List.drop_zero] at e2
      obtain ⟨st2, st3, b, fl, f1, f2, f3, f4, k2, hb⟩ := t_hold hK (st := st1) (zs := zs) (pr := fs.map par) (g := false) pm hmn (by omega) (by omega) (by simp; omega)
      refine ⟨b, st3, def_rt (n := 1) (k := 7) rfl (pre _ ?_), k1.trans (k2.mono k1.le), fun h => ?_, fun h => ?_⟩
      · refine seq_nx (mFor_runL hit e2) ?_
        generalize (fs.map par).map W.int = PW at *
        simp [f1, f2, f3, f4]
      · exact ⟨zs, fs, mn, rfl, hs, fun j f hj => hall j f (by omega) hj, hb.mp h⟩
      · obtain ⟨zs', fs', mn', e, -, -, hr⟩ := h
        cases e
        exact hb.mpr hr
    · rw [List.drop_zero] at e2
      refine ⟨false, st1, def_rt (n := 1) (k := 7) rfl (pre _ ?_), k1, fun h => (by cases h), fun h => ?_⟩
      · refine seq_rt (st1 := st1) ?_
        rw [mFor_runL hit e2]
      · obtain ⟨zs', fs', mn', e, -, hr, -⟩ := h
        cases e
        exact absurd (hr j f hj) hbad
end
end Gn

namespace Gn
open PySem L2 Mi
/-! ### the law's judge whole -/
theorem Only.kp {A : List Nat} {n : Nat} {a b : Sto} (h : Only A a b) (hn : n ≤ a.length) (hA : ∀ i ∈ A, n ≤ i) : Kp n a b :=
  ⟨h.1, fun i hi => h.2 i (by omega) (fun z => by have := hA i z; omega)⟩
section
variable {K : Nat} (hK : K ≤ 1000)
include hK
theorem l_f_holds {st : Sto} {zs : List W} {prW : W} {pr : List Int} {n : Nat} {w : W} (hn : n ≤ 40) (hw : Pw K n w) (most : Int) (hm : most ≤ 1000000) (hz : zs.length ≤ 1000) (hp : pr.length ≤ 1000) (hpw : asL prW st = some (pr.map W.int)) (hpr : ∀ p, prW = .ref p → p < st.length) :
    ∃ (b : Bool) (st' : Sto), m_L_f_holds [.tup zs, prW, w, .int most] st = .ok (.bl b) st' ∧ Kp st.length st st' ∧ (b = true ↔ shapeF most w = true ∧ RuleF zs.length pr (decide (0 < most)) w) := by
  have hd : ∀ (b : Bool) (st' : Sto), b_L_f_holds [some (.tup zs), some prW, some w, some (.int most), none] st = .rt (.bl b) st' → m_L_f_holds [.tup zs, prW, w, .int most] st = .ok (.bl b) st' := fun b st' e => def_rt (n := 4) (k := 1) rfl e
  have bad : b_L_f_holds [some (.tup zs), some prW, some w, some (.int most), none] st = .rt (.bl false) st → shapeF most w = false → ∃ (b : Bool) (st' : Sto), m_L_f_holds [.tup zs, prW, w, .int most] st = .ok (.bl b) st' ∧ Kp st.length st st' ∧ (b = true ↔ shapeF most w = true ∧ RuleF zs.length pr (decide (0 < most)) w) := fun e h =>
    ⟨false, st, hd _ _ e, Kp.refl _ _, ⟨(fun z => by cases z), (fun z => by rw [h] at z; cases z.1)⟩⟩
  have p10 : (10 : Int) ^ (9 : Nat) = 1000000000 := by decide
  by_cases h3 : ∃ x y z, w = .tup [x, y, z]
  · obtain ⟨x, y, z, rfl⟩ := h3
    obtain ⟨m, rfl, -, hx⟩ := Pw.sub hK hw
    have px := hx x (by simp)
    have py := hx y (by simp)
    have pz := hx z (by simp)
    have e2 := t_l_is_int px st 0 most
    have e3 := t_l_is_int py st 0 1000000000
    have ey : inRow 0 1000000000 y = isNumW y := by
      cases y with
      | int i =>
        have hb : -1000000 ≤ i ∧ i ≤ 1000000 := by cases m <;> exact py
        simp [inRow, isNumW]
        omega
      | _ => rfl
    rw [ey] at e3
    have e4 := lpart_ok hK (lw_ok hK 12 (by omega)) (by omega) pz st (f := 40) (by omega) "b" (by simp)
    have e4' : m_L_is_part 40 [.str "b", z, .int 1] st = .ok (.bl (partL 12 "b" z)) st := e4
    have ez : partL 12 "b" z = bodyW (sh 12 true) z := by simp [partL]
    rw [ez] at e4'
    have a0 := atI0 x [y, z]
    have a1 : atI [x, y, z] 1 = some y := by have := Mi.atI_nat [x, y, z] 1; simpa using this
    have a2 : atI [x, y, z] 2 = some z := by have := Mi.atI_nat [x, y, z] 2; simpa using this
    cases h1 : inRow 0 most x with
    | false =>
      rw [h1] at e2
      refine bad ?_ (by simp [shapeF, h1])
      unfold b_L_f_holds
      refine seq_rt (ifS_true (st1 := st) (by simp [sizeLine_eq, a0, e2]) ?_)
      simp
    | true =>
      rw [h1] at e2
      have s1 : (mIfS (mTOr (mTNot (mTru (mIsi "tuple" (mVar 2)))) (mTOr (mTest (mOp mNe (mCB mLen (mCons (mVar 2) mNil)) (mC (W.int 3)))) (mTNot (mTru (mCall 3 m_L_is_int (mCons (mOp mIx (mVar 2) (mC (W.int 0))) (mCons (mC (W.int 0)) (mCons (mVar 3) mNil)))))))) (mRet (mC (W.bl false))) mSkip) [some (.tup zs), some prW, some (.tup [x, y, z]), some (.int most), none] st = .nx [some (.tup zs), some prW, some (.tup [x, y, z]), some (.int most), none] st := ifS_false (st1 := st) (by simp [sizeLine_eq, a0, e2]) rfl
      cases h2 : isNumW y with
      | false =>
        rw [h2] at e3
        refine bad ?_ (by simp [shapeF, h2])
        unfold b_L_f_holds
        refine seq_nx s1 (seq_rt (ifS_true (st1 := st) (by simp [p10, a1, e3]) ?_))
        simp
      | true =>
        rw [h2] at e3
        cases h3 : bodyW (sh 12 true) z with
        | false =>
          rw [h3] at e4'
          refine bad ?_ (by simp [shapeF, h3])
          unfold b_L_f_holds
          refine seq_nx s1 (seq_rt (ifS_true (st1 := st) (by simp [p10, a1, e3, a2, e4']) ?_))
          simp
        | true =>
          rw [h3] at e4'
          have hsh : shapeF most (.tup [x, y, z]) = true := by simp [shapeF, h1, h2, h3]
          have s2 : (mIfS (mTOr (mTNot (mTru (mCall 3 m_L_is_int (mCons (mOp mIx (mVar 2) (mC (W.int 1))) (mCons (mC (W.int 0)) (mCons (mOp mPow (mC (W.int 10)) (mC (W.int 9))) mNil)))))) (mTNot (mTru (mCall 3 (m_L_is_part 40) (mCons (mC (W.str "b")) (mCons (mOp mIx (mVar 2) (mC (W.int 2))) (mCons (mC (W.int 1)) mNil))))))) (mRet (mC (W.bl false))) mSkip) [some (.tup zs), some prW, some (.tup [x, y, z]), some (.int most), none] st = .nx [some (.tup zs), some prW, some (.tup [x, y, z]), some (.int most), none] st := ifS_false (st1 := st) (by simp [p10, a1, e3, a2, e4']) rfl
          -- the rules, for any writing of the function
          have main : ∀ (a b : Int) (ss : Sms), W.tup [x, y, z] = .tup [.int a, .int b, .tup (encSs ss)] → fineSs 12 ss → ∃ (st2 : Sto), b_L_f_holds [some (.tup zs), some prW, some (.tup [x, y, z]), some (.int most), none] st = .rt (.bl (match rB zs.length pr (decide (0 < most)) ss (rngI a) a with | some p => decide (p.2 = b) | none => false)) st2 ∧ Kp st.length st st2 := fun a b ss e hf => by
            cases e
            simp [inRow] at h1
            have hr := rngI_w a
            obtain ⟨S1, hS1⟩ : ∃ S1, S1 = st ++ [ruD zs prW (decide (0 < most)) (rngI a) a] := ⟨_, rfl⟩
            have hob : S1[st.length]? = some (ruD zs prW (decide (0 < most)) (rngI a) a) := by rw [hS1]; simp
            have hpw1 : asL prW S1 = some (pr.map W.int) := by
              cases prW with
              | ref p =>
                have hpl := hpr p rfl
                simp only [asL] at hpw ⊢
                rw [hS1, List.getElem?_append_left hpl]
                exact hpw
              | _ => exact hpw
            have hlu : LuAt 1000001 st.length zs prW zs.length pr (decide (0 < most)) (rngI a) a S1 := ⟨hob, hpw1, fun z => by have := hpr _ z; omega, rfl, hz, hp, by rw [rngI_len]; omega, by omega⟩
            obtain ⟨m', rfl, -, -⟩ := Pw.sub hK pz
            obtain ⟨st2, op2, nx2, f1, h2, k2, q2⟩ := (l_body hK (k := 12) (n := m') (f := 39) (N := 1000001) (N2 := 1000001 + ((2 ^ 12 : Nat) : Int)) (by omega) (fun s hs hp st op nx h => l_stmt hK 12 (by omega) 1000001 (by omega) (by decide) s hs m' hp 39 (by omega) st op nx h) ss hf pz _ _ _ hlu).ex
            have kk : Kp st.length st st2 := (show Kp st.length st S1 by rw [hS1]; exact Kp.app (Nat.le_refl _) _).trans (Only.kp k2 (by rw [hS1]; simp) (by simp))
            refine ⟨st2, ?_, kk⟩
            have hob2 := h2.ob
            have f1' : m_L_b_holds 40 [.ref st.length, .tup (encSs ss)] S1 = .ok (.bl (((rB zs.length pr (decide (0 < most)) ss (rngI a) a).map fun p => (rngI a, p.2)).isSome)) st2 := f1
            unfold b_L_f_holds
            refine seq_nx s1 (seq_nx s2 ?_)
            refine seq_nx (s1 := [some (.tup zs), some prW, some (.tup [.int a, .int b, .tup (encSs ss)]), some (.int most), some (.ref st.length)]) (st1 := S1) (by
              rw [hS1]
              simp [mListRg, a0, h1, hr, show a ≤ 1000000 by omega]
              rfl) ?_
            cases hrb : rB zs.length pr (decide (0 < most)) ss (rngI a) a with
            | none =>
              rw [hrb] at f1'
              simp at f1'
              simp [a2, f1']
            | some p =>
              rw [hrb] at f1'
              simp at f1'
              have := (q2 (rngI a, p.2) (by rw [hrb]; rfl)).1
              simp only [Prod.mk.injEq] at this
              have t2 : p.2 = nx2 := this.2
              simp [a2, f1', hob2, a1, t2]
          obtain ⟨a, b, ss, e, hf, h0, ha, hb⟩ := shapeF_ex hsh
          obtain ⟨st2, f2, k2⟩ := main a b ss e hf
          refine ⟨_, st2, hd _ _ f2, k2, fun h => ⟨hsh, ?_⟩, ?_⟩
          · split at h
            · rename_i p hp'
              refine ⟨a, b, ss, p.1, e, hf, ?_⟩
              rw [hp']
              simp only [decide_eq_true_eq] at h
              rw [← h]
            · cases h
          · rintro ⟨-, a', b', ss', op, e', hf', hr'⟩
            obtain ⟨st3, f3, k3⟩ := main a' b' ss' e' hf'
            rw [f2] at f3
            injection f3 with f3 f4
            injection f3 with f3
            rw [f3, hr']
            simp
  · refine bad ?_ (by
      unfold shapeF
      split
      · rename_i x y z
        exact absurd ⟨x, y, z, rfl⟩ h3
      · rfl)
    unfold b_L_f_holds
    cases w with
    | tup xs =>
      obtain ⟨m, rfl, hl, -⟩ := Pw.sub hK hw
      have hne : ¬ ((xs.length : Int) = 3) := fun e => by
        obtain ⟨x, y, z, rfl⟩ := len3 (show xs.length = 3 by omega)
        exact h3 ⟨x, y, z, rfl⟩
      refine seq_rt (ifS_true (st1 := st) (by simp [sizeLine_eq, show xs.length ≤ 16777216 by omega, hne]) ?_)
      simp
    | ref i => cases n <;> cases hw
    | _ =>
      refine seq_rt (ifS_true (st1 := st) (by simp) ?_)
      simp
end
end Gn

namespace Gn
open PySem L2 Mi
section
variable {K : Nat} (hK : K ≤ 1000)
include hK
theorem l_turns {zs : List W} {m : Nat} {w c z : W} {all : List W} (hm : m ≤ 40) (hw : w = .tup [c, .tup zs, .tup all, z]) (hz : zs.length ≤ 1000) (v1 v2 : Option W) (P : Nat) : ∀ (fs : List W) (ps : List Int), (∀ f ∈ fs, Pw K m f) → ps.length + fs.length ≤ 1000 → ∀ (st : Sto) (x4 : Option W), st[P]? = some (.lst (ps.map W.int)) →
    (∃ (st' : Sto) (y4 : Option W), runL (mGN 4) l2_L_is_checked fs [some w, v1, v2, some (.ref P), x4] st = .nx [some w, v1, v2, some (.ref P), y4] st' ∧ Kp P st st' ∧ st'[P]? = some (.lst ((ps ++ fs.map par).map W.int)) ∧ ∀ j f, fs[j]? = some f → shapeF 4 f = true ∧ RuleF zs.length (ps ++ (fs.take j).map par) true f) ∨
    (∃ (st' : Sto), runL (mGN 4) l2_L_is_checked fs [some w, v1, v2, some (.ref P), x4] st = .rt (.bl false) st' ∧ Kp P st st' ∧ ∃ j f, fs[j]? = some f ∧ ¬ (shapeF 4 f = true ∧ RuleF zs.length (ps ++ (fs.take j).map par) true f))
  | [], ps, _, _, st, x4, hP => .inl ⟨st, x4, rfl, Kp.refl _ _, by simpa using hP, fun j f h => by simp at h⟩
  | f :: fs, ps, hx, hl, st, x4, hP => by
    subst hw
    simp only [List.length_cons] at hl
    have hPl := (List.getElem?_eq_some_iff.mp hP).1
    obtain ⟨b, st1, e1, k1, hb⟩ := l_f_holds hK (st := st) (zs := zs) (prW := .lst (ps.map W.int)) (pr := ps) hm (hx f (by simp)) 4 (by omega) hz (by omega) rfl (fun p h => by cases h)
    have hdec : decide ((0 : Int) < 4) = true := by decide
    rw [hdec] at hb
    have a1 : atI [c, .tup zs, .tup all, z] 1 = some (.tup zs) := by have := Mi.atI_nat [c, .tup zs, .tup all, z] 1; simpa using this
    have hgg : (mGN 4) f [some (.tup [c, .tup zs, .tup all, z]), v1, v2, some (.ref P), x4] st = some ([some (.tup [c, .tup zs, .tup all, z]), v1, v2, some (.ref P), some f], st) := rfl
    have s1 : ∀ t : MS, mSeq (mIfS (mTNot (mTru (mCall 4 m_L_f_holds (mCons (mOp mIx (mVar 0) (mC (W.int 1))) (mCons (mCB mListOf (mCons (mVar 3) mNil)) (mCons (mVar 4) (mCons (mC (W.int 4)) mNil))))))) (mRet (mC (W.bl false))) mSkip) t [some (.tup [c, .tup zs, .tup all, z]), v1, v2, some (.ref P), some f] st = if b = true then t [some (.tup [c, .tup zs, .tup all, z]), v1, v2, some (.ref P), some f] st1 else .rt (.bl false) st1 := fun t => by
      generalize ps.map W.int = PW at *
      cases b with
      | true =>
        rw [if_pos rfl]
        exact seq_nx (ifS_false (st1 := st1) (by simp [a1, hP, e1]) rfl) rfl
      | false =>
        rw [if_neg (by simp)]
        exact seq_rt (ifS_true (st1 := st1) (by simp [a1, hP, e1]) (by simp))
    cases b with
    | false =>
      refine .inr ⟨st1, ?_, k1.mono (by omega), 0, f, rfl, fun h => ?_⟩
      · have : l2_L_is_checked [some (.tup [c, .tup zs, .tup all, z]), v1, v2, some (.ref P), some f] st = .rt (.bl false) st1 := by
          unfold l2_L_is_checked
          rw [s1]; rfl
        simp only [runL, hgg, this]
      · simp only [List.take_zero, List.map_nil, List.append_nil] at h
        have := hb.mpr h
        cases this
    | true =>
      obtain ⟨hs, hr⟩ := hb.mp rfl
      obtain ⟨a, b, ss, ef, -⟩ := shapeF_ex hs
      have hP1 : st1[P]? = some (.lst (ps.map W.int)) := k1.rd hP hPl
      have hl1 := k1.le
      obtain ⟨st2, hst2⟩ : ∃ st2, st2 = st1.set P (.lst ((ps ++ [par f]).map W.int)) := ⟨_, rfl⟩
      have hP2 : st2[P]? = some (.lst ((ps ++ [par f]).map W.int)) := by rw [hst2, List.getElem?_set_self (by omega)]
      have k2 : Kp P st1 st2 := by rw [hst2]; exact Kp.set (Nat.le_refl _)
      have hrun : l2_L_is_checked [some (.tup [c, .tup zs, .tup all, z]), v1, v2, some (.ref P), some f] st = .nx [some (.tup [c, .tup zs, .tup all, z]), v1, v2, some (.ref P), some f] st2 := by
        unfold l2_L_is_checked
        rw [s1]
        rw [if_pos rfl, hst2, ef]
        have hpz : ps.length < 16777216 := by omega
        simp [hP1, atI0, sizeLine_eq, hpz, par]
      have hcomb : ∀ j, ps ++ ((f :: fs).take (j + 1)).map par = (ps ++ [par f]) ++ (fs.take j).map par := fun j => by simp
      rcases l_turns hm rfl hz v1 v2 P fs (ps ++ [par f]) (fun g hg => hx g (by simp [hg])) (by simp; omega) st2 (some f) hP2 with ⟨st3, y4, e3, k3, hP3, hall⟩ | ⟨st3, e3, k3, j, g, hj, hbad⟩
      · refine .inl ⟨st3, y4, ?_, ((k1.mono (by omega)).trans k2).trans k3, by rw [hP3]; simp, fun j g hj => ?_⟩
        · simp only [runL, hgg, hrun]
          exact e3
        · cases j with
          | zero => simp at hj; subst hj; simpa using ⟨hs, hr⟩
          | succ j =>
            rw [hcomb]
            exact hall j g (by simpa using hj)
      · refine .inr ⟨st3, ?_, ((k1.mono (by omega)).trans k2).trans k3, j + 1, g, by simpa using hj, by rw [hcomb]; exact hbad⟩
        simp only [runL, hgg, hrun]
        exact e3
theorem rows_run {w : W} {m : Nat} (v2 v3 v4 : Option W) (st : Sto) : ∀ (rs : List W), (∀ r ∈ rs, Pw K m r) → ∀ (x1 : Option W),
    (∃ y1, runL (mGN 1) l0_L_is_checked rs [some w, x1, v2, v3, v4] st = .nx [some w, y1, v2, v3, v4] st ∧ ∀ r ∈ rs, tupLe 8 r = true) ∨
    (runL (mGN 1) l0_L_is_checked rs [some w, x1, v2, v3, v4] st = .rt (.bl false) st ∧ ∃ r ∈ rs, tupLe 8 r = false)
  | [], _, x1 => .inl ⟨x1, rfl, fun r h => by cases h⟩
  | r :: rs, hx, x1 => by
    have hr := hx r (by simp)
    have hg : (mGN 1) r [some w, x1, v2, v3, v4] st = some ([some w, some r, v2, v3, v4], st) := rfl
    have hl : l0_L_is_checked [some w, some r, v2, v3, v4] st = if tupLe 8 r = true then .nx [some w, some r, v2, v3, v4] st else .rt (.bl false) st := by
      unfold l0_L_is_checked
      cases r with
      | tup xs =>
        obtain ⟨m', rfl, hxl, -⟩ := Pw.sub hK hr
        by_cases h8 : xs.length ≤ 8
        · rw [if_pos (show tupLe 8 (.tup xs) = true from decide_eq_true h8)]
          exact ifS_false (st1 := st) (by simp [sizeLine_eq, show xs.length ≤ 16777216 by omega, show (xs.length : Int) ≤ 8 by omega]) rfl
        · rw [if_neg (by simp [tupLe, h8])]
          exact ifS_true (st1 := st) (by simp [sizeLine_eq, show xs.length ≤ 16777216 by omega, show (8 : Int) < (xs.length : Int) by omega]) (by simp)
      | ref i => cases m <;> cases hr
      | _ =>
        rw [if_neg (by simp [tupLe])]
        exact ifS_true (st1 := st) (by simp) (by simp)
    cases h8 : tupLe 8 r with
    | false =>
      rw [h8] at hl
      exact .inr ⟨by simp only [runL, hg, hl]; rfl, r, by simp, h8⟩
    | true =>
      rw [h8] at hl
      rcases rows_run v2 v3 v4 st rs (fun q hq => hx q (by simp [hq])) (some r) with ⟨y1, e, h⟩ | ⟨e, q, hq, hq8⟩
      · exact .inl ⟨y1, by simp only [runL, hg, hl]; exact e, fun q hq => (List.mem_cons.mp hq).elim (fun z => z ▸ h8) (h q)⟩
      · exact .inr ⟨by simp only [runL, hg, hl]; exact e, q, by simp [hq], hq8⟩
theorem l_is_checked {n : Nat} {w : W} (hn : n ≤ 40) (hw : Pw K n w) (st : Sto) : ∃ (b : Bool) (st' : Sto), m_L_is_checked [w] st = .ok (.bl b) st' ∧ Kp st.length st st' ∧ (b = true ↔ CheckedW w) := by
  have hd : ∀ (b : Bool) (st' : Sto), b_L_is_checked [some w, none, none, none, none] st = .rt (.bl b) st' → m_L_is_checked [w] st = .ok (.bl b) st' := fun b st' e => def_rt (n := 1) (k := 4) rfl e
  have bad : ∀ st', b_L_is_checked [some w, none, none, none, none] st = .rt (.bl false) st' → Kp st.length st st' → ¬ CheckedW w → ∃ (b : Bool) (st' : Sto), m_L_is_checked [w] st = .ok (.bl b) st' ∧ Kp st.length st st' ∧ (b = true ↔ CheckedW w) := fun st' e k h =>
    ⟨false, st', hd _ _ e, k, ⟨(fun z => by cases z), (fun z => absurd z h)⟩⟩
  have bad0 : b_L_is_checked [some w, none, none, none, none] st = .rt (.bl false) st → ¬ CheckedW w → ∃ (b : Bool) (st' : Sto), m_L_is_checked [w] st = .ok (.bl b) st' ∧ Kp st.length st st' ∧ (b = true ↔ CheckedW w) := fun e h => bad st e (Kp.refl _ _) h
  by_cases h4 : ∃ c x y z, w = .tup [c, x, y, z]
  · obtain ⟨c, x, y, z, rfl⟩ := h4
    obtain ⟨m, rfl, -, hx⟩ := Pw.sub hK hw
    have pc := hx c (by simp)
    have px := hx x (by simp)
    have py := hx y (by simp)
    have pz := hx z (by simp)
    have a0 := atI0 c [x, y, z]
    have a1 : atI [c, x, y, z] 1 = some x := by have := Mi.atI_nat [c, x, y, z] 1; simpa using this
    have a2 : atI [c, x, y, z] 2 = some y := by have := Mi.atI_nat [c, x, y, z] 2; simpa using this
    have a3 : atI [c, x, y, z] 3 = some z := by have := Mi.atI_nat [c, x, y, z] 3; simpa using this
    by_cases hc : c = .str "checked"
    · subst hc
      have s1 : (mIfS (mTOr (mTNot (mTru (mIsi "tuple" (mVar 0)))) (mTOr (mTest (mOp mNe (mCB mLen (mCons (mVar 0) mNil)) (mC (W.int 4)))) (mTOr (mTNot (mTru (mIsi "str" (mOp mIx (mVar 0) (mC (W.int 0)))))) (mTest (mOp mNe (mOp mIx (mVar 0) (mC (W.int 0))) (mC (W.str "checked"))))))) (mRet (mC (W.bl false))) mSkip) [some (.tup [.str "checked", x, y, z]), none, none, none, none] st = .nx [some (.tup [.str "checked", x, y, z]), none, none, none, none] st := ifS_false (st1 := st) (by simp [sizeLine_eq, a0]) rfl
      have hcut : cutW [.str "checked", x, y, z] (some 1) (some 3) = [x, y] := by rfl
      rcases rows_run hK (w := .tup [.str "checked", x, y, z]) none none none st [x, y] (fun r hr => by simp at hr; rcases hr with rfl | rfl; exact px; exact py) none with ⟨y1, er, hr⟩ | ⟨er, q, hq, hq8⟩
      · obtain ⟨zs, rfl, hz8⟩ : ∃ zs, x = .tup zs ∧ zs.length ≤ 8 := by
          have := hr x (by simp)
          cases x <;> simp [tupLe] at this
          exact ⟨_, rfl, this⟩
        obtain ⟨fs, rfl, hf8⟩ : ∃ fs, y = .tup fs ∧ fs.length ≤ 8 := by
          have := hr y (by simp)
          cases y <;> simp [tupLe] at this
          exact ⟨_, rfl, this⟩
        obtain ⟨m', rfl, -, hzx⟩ := Pw.sub hK px
        obtain ⟨m2, hm2, -, hfx⟩ := Pw.sub hK py
        cases hm2
        have s2 := mFor_runL (s := [some (.tup [.str "checked", .tup zs, .tup fs, z]), none, none, none, none]) (st := st) (it := mITup (mSl (mVar 0) (mPart (mC (W.int 1))) (mPart (mC (W.int 3))))) (st1 := st) (by simp [hcut]) er
        have c1 := all_comp hK (it := mITup (mOp mIx (mVar 0) (mC (W.int 1)))) (e := e1_L_is_checked) (v := 2) (s := [some (.tup [.str "checked", .tup zs, .tup fs, z]), y1, none, none, none]) (st := st) (ys := zs) (by simp [a1]) (by omega) (inRow 1 64) (fun q hq => by
          have := t_l_is_int (hzx q hq) st 1 64
          simp [e1_L_is_checked, wipeW, this])
        have b1 := in_false (zs.map (inRow 1 64)) st
        rw [List.map_map] at b1
        have b1' : mIn (.bl false) (.lst (zs.map fun y => W.bl (inRow 1 64 y))) st = _ := b1
        have z1 : ((zs.map (inRow 1 64)).all id) = zs.all (inRow 1 64) := by rw [List.all_map]; rfl
        rw [z1] at b1'
        cases h1 : zs.all (inRow 1 64) with
        | false =>
          rw [h1] at b1'
          refine bad0 ?_ (fun ⟨zs', fs', mn', e, hs, _⟩ => by cases e; simp [shpW, h1] at hs)
          unfold b_L_is_checked
          refine seq_nx s1 (seq_nx s2 (seq_rt (st1 := st) (ifS_true (st1 := st) (by simp [-mLc, -mIn, c1, b1']) ?_)))
          simp
        | true =>
          rw [h1] at b1'
          obtain ⟨S1, hS1⟩ : ∃ S1, S1 = st ++ [Ob.lst []] := ⟨_, rfl⟩
          have kS : Kp st.length st S1 := by rw [hS1]; exact Kp.app (Nat.le_refl _) _
          have hP : S1[st.length]? = some (.lst (([] : List Int).map W.int)) := by rw [hS1]; simp
          have pre : ∀ o, (mSeq (mFor (mITup (mOp mIx (mVar 0) (mC (W.int 2)))) (mGN 4) l2_L_is_checked)
  (mRet (mCall 4 m_L_f_holds (mCons (mOp mIx (mVar 0) (mC (W.int 1))) (mCons (mVar 3) (mCons (mOp mIx (mVar 0) (mC (W.int 3))) (mCons (mC (W.int 0)) mNil))))))) [some (.tup [.str "checked", .tup zs, .tup fs, z]), y1, none, some (.ref st.length), none] S1 = o → b_L_is_checked [some (.tup [.str "checked", .tup zs, .tup fs, z]), none, none, none, none] st = o := fun o ho => by
            unfold b_L_is_checked
            refine seq_nx s1 (seq_nx s2 (seq_nx (ifS_false (st1 := st) (by simp [-mLc, -mIn, c1, b1']) rfl) ?_))
            refine seq_nx (s1 := [some (.tup [.str "checked", .tup zs, .tup fs, z]), y1, none, some (.ref st.length), none]) (st1 := S1) (by rw [hS1]; simp [sizeLine_eq]) ho
          have hit : mITup (mOp mIx (mVar 0) (mC (W.int 2))) [some (.tup [.str "checked", .tup zs, .tup fs, z]), y1, none, some (.ref st.length), none] S1 = .ok (.vals fs) S1 := by simp [a2]
          rcases l_turns hK (m := m') (c := .str "checked") (z := z) (by omega) rfl (by omega : zs.length ≤ 1000) y1 none st.length fs [] hfx (by simp; omega) S1 none hP with ⟨st2, y4, e2, k2, hP2, hall⟩ | ⟨st2, e2, k2, j, f, hj, hbad⟩
          · have hPl2 := (List.getElem?_eq_some_iff.mp hP2).1
            obtain ⟨b, st3, e3, k3, hb⟩ := l_f_holds hK (st := st2) (zs := zs) (prW := .ref st.length) (pr := [] ++ fs.map par) (n := m' + 1) (by omega) pz 0 (by omega) (by omega) (by simp; omega) (by simp only [asL, hP2]) (fun p h => by cases h; exact hPl2)
            refine ⟨b, st3, hd _ _ (pre _ ?_), (kS.trans k2).trans (k3.mono (by have := k2.le; rw [hS1] at this; simp at this; omega)), fun h => ?_, fun h => ?_⟩
            · refine seq_nx (mFor_runL hit e2) ?_
              simp [a1, a3, e3]
            · obtain ⟨g1, g2⟩ := hb.mp h
              have hfa : fs.all (shapeF 4) = true := by
                rw [List.all_eq_true]
                intro f hf
                obtain ⟨j, hj⟩ := List.mem_iff_getElem?.mp hf
                exact (hall j f hj).1
              refine ⟨zs, fs, z, rfl, by simp only [shpW, h1, hfa, g1, decide_eq_true hz8, decide_eq_true hf8]; rfl, fun j f hj => by simpa using (hall j f hj).2, by simpa using g2⟩
            · obtain ⟨zs', fs', mn', e, hs, hrf, hrm⟩ := h
              cases e
              refine hb.mpr ⟨?_, by simpa using hrm⟩
              simp only [shpW, Bool.and_eq_true] at hs
              exact hs.2.2.2.2
          · refine bad st2 (pre _ ?_) (kS.trans k2) (fun ⟨zs', fs', mn', e, hs, hrf, hrm⟩ => ?_)
            · refine seq_rt (st1 := st2) ?_
              rw [mFor_runL hit e2]
            · cases e
              refine hbad ⟨?_, by simpa using hrf j f hj⟩
              simp only [shpW, Bool.and_eq_true] at hs
              exact List.all_eq_true.mp hs.2.2.2.1 f (List.mem_of_getElem? hj)
      · refine bad0 ?_ (fun ⟨zs', fs', mn', e, hs, _⟩ => ?_)
        · unfold b_L_is_checked
          refine seq_nx s1 (seq_rt (st1 := st) ?_)
          rw [mFor_runL (st1 := st) (by simp [hcut]) er]
        · cases e
          simp only [shpW, Bool.and_eq_true, decide_eq_true_eq] at hs
          simp only [List.mem_cons, List.not_mem_nil, or_false] at hq
          rcases hq with rfl | rfl
          · simp [tupLe] at hq8; omega
          · simp [tupLe] at hq8; omega
    · refine bad0 ?_ (fun ⟨zs', fs', mn', e, _⟩ => by cases e; exact hc rfl)
      unfold b_L_is_checked
      refine seq_rt (ifS_true (st1 := st) ?_ (by simp))
      cases c with
      | str s =>
        have hs : ¬ s = "checked" := fun e => hc (by rw [e])
        have hso : PyData.strOk s = true := strA_ok s (by cases m <;> exact pc)
        simp [sizeLine_eq, a0, hs, hso]
      | ref i => cases m <;> cases pc
      | _ => simp [sizeLine_eq, a0]
  · refine bad0 ?_ (fun ⟨zs', fs', mn', e, _⟩ => h4 ⟨_, _, _, _, e⟩)
    unfold b_L_is_checked
    refine seq_rt (ifS_true (st1 := st) ?_ (by simp))
    cases w with
    | tup xs =>
      obtain ⟨m, rfl, hl, -⟩ := Pw.sub hK hw
      have hne : ¬ ((xs.length : Int) = 4) := fun e => by
        obtain ⟨a, b, c, d, rfl⟩ := len4 (show xs.length = 4 by omega)
        exact h4 ⟨a, b, c, d, rfl⟩
      simp [sizeLine_eq, show xs.length ≤ 16777216 by omega, hne]
    | ref i => cases n <;> cases hw
    | _ => simp
end
end Gn

namespace Gn
open PySem L2 Mi
/-! ### drawn checked trees -/
def evL (zs : List W) (prW : W) (op : List Int) (nx : Int) (g : Bool) (fu : Int) : List (Key × W) := [(.inr "sizes", .tup zs), (.inr "params", prW), (.inr "open", .lst (op.map W.int)), (.inr "next", .int nx), (.inr "give", .bl g), (.inr "fuel", .int fu)]
section
variable {zs : List W} {prW : W} {g : Bool} {op op' : List Int} {nx nx' fu fu' : Int}
@[simp] theorem ev0 : valW (evL zs prW op nx g fu) (.inr "sizes") = some (.tup zs) := rfl
@[simp] theorem ev1 : valW (evL zs prW op nx g fu) (.inr "params") = some prW := rfl
@[simp] theorem ev2 : valW (evL zs prW op nx g fu) (.inr "open") = some (.lst (op.map W.int)) := rfl
@[simp] theorem ev3 : valW (evL zs prW op nx g fu) (.inr "next") = some (.int nx) := rfl
@[simp] theorem ev4 : valW (evL zs prW op nx g fu) (.inr "give") = some (.bl g) := rfl
@[simp] theorem ev5 : valW (evL zs prW op nx g fu) (.inr "fuel") = some (.int fu) := rfl
theorem ep2 : putKW (evL zs prW op nx g fu) (.inr "open") (.lst (op'.map W.int)) = evL zs prW op' nx g fu := rfl
theorem ep3 : putKW (evL zs prW op nx g fu) (.inr "next") (.int nx') = evL zs prW op nx' g fu := rfl
theorem ep5 : putKW (evL zs prW op nx g fu) (.inr "fuel") (.int fu') = evL zs prW op nx g fu' := rfl
@[simp] theorem evl : (evL zs prW op nx g fu).length = 6 := rfl
end
/-- a bag and a drawing's state -/
structure Gv (i v : Nat) (zs : List W) (prW : W) (pr op : List Int) (nx : Int) (g : Bool) (fu : Int) (st : Sto) : Prop where
  bg : Bag3 st i
  ob : st[v]? = some (.dK (evL zs prW op nx g fu))
  pw : asL prW st = some (pr.map W.int)
  pn : prW ≠ .ref v ∧ prW ≠ .ref i
  iv : i ≠ v
  z8 : zs.length ≤ 10
  p8 : pr.length ≤ 10
  pv : ∀ x ∈ pr, 0 ≤ x ∧ x ≤ 4
  o8 : op.length ≤ 1000
  ov : ∀ x ∈ op, 0 ≤ x
section
variable {i v : Nat} {zs : List W} {prW : W} {pr op : List Int} {nx : Int} {g : Bool} {fu : Int} {st st' : Sto}
theorem asL_only {A : List Nat} {w : W} {xs : List W} (h : asL w st = some xs) (o : Only A st st') (hn : ∀ p, w = .ref p → p ∉ A) : asL w st' = some xs := by
  cases w with
  | ref p =>
    simp only [asL] at h ⊢
    split at h
    · rename_i ws e
      rw [o.rd e (hn p rfl)]
      exact h
    · cases h
  | _ => exact h
theorem Gv.draw (h : Gv i v zs prW pr op nx g fu st) (d : D3 i st st') : Gv i v zs prW pr op nx g fu st' :=
  ⟨d.b, d.rd h.ob (fun z => h.iv z.symm), asL_only h.pw d.o (fun p hp z => h.pn.2 (by simp only [List.mem_singleton] at z; rw [hp, z])), h.pn, h.iv, h.z8, h.p8, h.pv, h.o8, h.ov⟩
theorem Gv.put (h : Gv i v zs prW pr op nx g fu st) {op' : List Int} {nx' fu' : Int} (ho : op'.length ≤ 1000) (hv : ∀ x ∈ op', 0 ≤ x) : Gv i v zs prW pr op' nx' g fu' (st.set v (.dK (evL zs prW op' nx' g fu'))) := by
  have hl := (List.getElem?_eq_some_iff.mp h.ob).1
  obtain ⟨a, b, c, hb⟩ := h.bg
  exact ⟨⟨a, b, c, by rw [List.getElem?_set_ne (fun z => h.iv z.symm)]; exact hb⟩, List.getElem?_set_self hl, asL_only (A := [v]) h.pw (Only.set (by simp)) (fun p hp z => h.pn.1 (by simp only [List.mem_singleton] at z; rw [hp, z])), h.pn, h.iv, h.z8, h.p8, h.pv, ho, hv⟩
theorem Gv.plen (h : Gv i v zs prW pr op nx g fu st) : mLen [prW] st = .ok (.int (pr.length : Int)) st := by
  have e := h.pw
  have hp := h.p8
  cases prW with
  | lst ws => simp only [asL, Option.some.injEq] at e; subst e; simp [sizeLine_eq, show pr.length ≤ 16777216 by omega]
  | xst ws => simp only [asL, Option.some.injEq] at e; subst e; simp [sizeLine_eq, show pr.length ≤ 16777216 by omega]
  | ref p =>
    simp only [asL] at e
    split at e
    · rename_i ws hw
      cases e
      simp [hw, sizeLine_eq, show pr.length ≤ 16777216 by omega]
    · cases e
  | _ => cases e
theorem Gv.pix (h : Gv i v zs prW pr op nx g fu st) {f : Int} (h0 : 0 ≤ f) (h1 : f < (pr.length : Int)) : mIx prW (.int f) st = .ok (.int (pr.getD f.toNat 0)) st := by
  have e := h.pw
  have hat : atI (pr.map W.int) f = some (.int (pr.getD f.toNat 0)) := by
    refine atI_nn h0 ?_
    rw [List.getElem?_map, List.getElem?_eq_getElem (by omega)]
    simp [List.getD, show f.toNat < pr.length by omega]
  cases prW with
  | tup ws => cases e
  | str z => cases e
  | _ => simp only [mIx, e, hat]
end
theorem t_one {st : Sto} {i : Nat} (h : Bag3 st i) (ws : List W) (h0 : 0 < ws.length) (h1 : ws.length ≤ 100000) : ∃ (w : W) (st' : Sto), m_L_one [.ref i, .lst ws] st = .ok w st' ∧ D3 i st st' ∧ w ∈ ws := by
  obtain ⟨r, st1, e, d, r0, r1⟩ := t_draw st i (ws.length : Int) h (by omega) (by omega)
  obtain ⟨n, rfl⟩ : ∃ n : Nat, r = (n : Int) := ⟨r.toNat, by omega⟩
  have hn : n < ws.length := by omega
  have hat : atI ws (n : Int) = some ws[n] := by rw [Mi.atI_nat, List.getElem?_eq_getElem hn]
  refine ⟨ws[n], st1, ?_, d, List.getElem_mem _⟩
  simp only [m_L_one, b_L_one]
  simp [e, hat, sizeLine_eq, show ws.length ≤ 16777216 by omega]
/-- what an expression's drawing comes to -/
structure GE (i v : Nat) (zs : List W) (prW : W) (pr op : List Int) (nx : Int) (g : Bool) (fu : Int) (dep : Nat) (st : Sto) (out : Out W) : Prop where
  ex : ∃ (e : Ex) (fu' : Int) (st' : Sto), out = .ok (encE e) st' ∧ rE zs.length pr op e = true ∧ fineE dep e ∧ fu' ≤ fu ∧ Gv i v zs prW pr op nx g fu' st' ∧ Only [i, v] st st'
structure GA (i v : Nat) (zs : List W) (prW : W) (pr op : List Int) (nx : Int) (g : Bool) (fu : Int) (dep : Nat) (f : Int) (st : Sto) (out : Out W) : Prop where
  ex : ∃ (a : Exs) (fu' : Int) (st' : Sto), out = .ok (.tup (encEs a)) st' ∧ rEs zs.length pr op a = true ∧ callOk pr f (encEs a).length = true ∧ (encEs a).length ≤ 4 ∧ fineEs dep a ∧ fu' ≤ fu ∧ Gv i v zs prW pr op nx g fu' st' ∧ Only [i, v] st st'
section
variable {i v : Nat} {zs : List W} {prW : W} {pr : List Int} {g : Bool}
theorem t_c_args {dep f : Nat} (he : ∀ (op : List Int) (nx fu : Int) (st : Sto), Gv i v zs prW pr op nx g fu st → GE i v zs prW pr op nx g fu dep st (m_L_c_e f [.ref i, .ref v, .int (dep : Int)] st)) {op : List Int} {nx fu : Int} {st : Sto} (h : Gv i v zs prW pr op nx g fu st) {fn : Int} (h0 : 0 ≤ fn) (h1 : fn < (pr.length : Int)) :
    GA i v zs prW pr op nx g fu dep fn st (m_L_c_args (f + 1) [.ref i, .ref v, .int fn, .int (dep : Int)] st) := by
  obtain ⟨c, hc⟩ : ∃ c : Nat, pr.getD fn.toNat 0 = (c : Int) := by
    have hm : pr.getD fn.toNat 0 ∈ pr := by
      have : pr.getD fn.toNat 0 = pr[fn.toNat]'(by omega) := by simp [List.getD, show fn.toNat < pr.length by omega]
      rw [this]; exact List.getElem_mem _
    have := (h.pv _ hm).1
    exact ⟨(pr.getD fn.toNat 0).toNat, by omega⟩
  have hc4 : c ≤ 4 := by
    have hm : pr.getD fn.toNat 0 ∈ pr := by
      have : pr.getD fn.toNat 0 = pr[fn.toNat]'(by omega) := by simp [List.getD, show fn.toNat < pr.length by omega]
      rw [this]; exact List.getElem_mem _
    have := (h.pv _ hm).2
    omega
  have loop : ∀ (n : Nat) (ws : List W), ws.length = n → ∀ (fu : Int) (st : Sto), Gv i v zs prW pr op nx g fu st → ∃ (a : Exs) (fu' : Int) (st' : Sto), lcR (NT.m (.nm 4)) mYes (e0_L_c_args (R_L_c_e f 0) (R_L_c_e f 1)) [some (.ref i), some (.ref v), some (.int fn), some (.int (dep : Int)), none] ws st = .ok (encEs a) st' ∧ (encEs a).length = n ∧ rEs zs.length pr op a = true ∧ fineEs dep a ∧ fu' ≤ fu ∧ Gv i v zs prW pr op nx g fu' st' ∧ Only [i, v] st st' := by
    intro n
    induction n with
    | zero =>
      intro ws hw fu st h
      cases ws with
      | nil => exact ⟨.nil, fu, st, rfl, rfl, by rw [rEs], by rw [fineEs]; trivial, by omega, h, Only.refl _ _⟩
      | cons => simp at hw
    | succ n ih =>
      intro ws hw fu st h
      cases ws with
      | nil => simp at hw
      | cons y ws =>
        obtain ⟨e, fu1, st1, e1, r1, f1, l1, h1, o1⟩ := (he op nx fu st h).ex
        obtain ⟨a, fu2, st2, e2, n2, r2, f2, l2, h2, o2⟩ := ih ws (by simpa using hw) fu1 st1 h1
        refine ⟨.cons e a, fu2, st2, ?_, by simp [encEs, n2], by rw [rEs, r1, r2]; rfl, by rw [fineEs]; exact ⟨f1, f2⟩, by omega, h2, o1.trans o2 (fun a ha _ => ha)⟩
        have hm : NT.m (.nm 4) y [some (.ref i), some (.ref v), some (.int fn), some (.int (dep : Int)), none] st = some ([some (.ref i), some (.ref v), some (.int fn), some (.int (dep : Int)), some y], st) := rfl
        have ee : e0_L_c_args (R_L_c_e f 0) (R_L_c_e f 1) [some (.ref i), some (.ref v), some (.int fn), some (.int (dep : Int)), some y] st = .ok (encE e) st1 := by
          simp [e0_L_c_args]
          exact e1
        simp only [lcR, hm, mYes, ee, e2, encEs]
  obtain ⟨a, fu', st', e1, n1, r1, f1, l1, h2, o1⟩ := loop c (rngW 0 c) (by simp) fu st h
  refine ⟨a, fu', st', ?_, r1, ?_, by omega, f1, l1, h2, o1⟩
  · refine def_rt (n := 4) (k := 1) rfl ?_
    show b_L_c_args (R_L_c_e f 0) (R_L_c_e f 1) [some (.ref i), some (.ref v), some (.int fn), some (.int (dep : Int)), none] st = _
    unfold b_L_c_args
    have hpx := h.pix h0 h1
    rw [hc] at hpx
    have hob := h.ob
    have hml := mLc_lcR (it := mIRng1 (mCons (mOp mIx (mDGet (mVar 1) (mC (W.str "params"))) (mVar 2)) mNil)) (n := .nm 4) (t := mYes) (e := e0_L_c_args (R_L_c_e f 0) (R_L_c_e f 1)) (vs := [4]) (s := [some (.ref i), some (.ref v), some (.int fn), some (.int (dep : Int)), none]) (st := st) (st1 := st) (ws := rngW 0 c) (rng1_nat (by simp [-mIx, hob, hpx]) (by omega)) (by simp; omega) e1
    simp [-mLc, hml]
  · unfold callOk
    rw [decide_eq_true h1, n1, hc, decide_eq_true rfl]
    rfl
/-- a leaf -/
abbrev leafS (r0 r1 : MF) : MS := (mSeq (mAsg (mLst (mCons (mTup (mCons (mC (W.str "number")) (mCons (mCall 2 m_L_one (mCons (mVar 0) (mCons (mLst (mCons (mC (W.int 0)) (mCons (mC (W.int 1)) (mCons (mC (W.int 2)) (mCons (mC (W.int 3)) (mCons (mC (W.int 65535)) (mCons (mCall 2 m_L_draw (mCons (mVar 0) (mCons (mC (W.int 65536)) mNil))) mNil))))))) mNil))) mNil))) (mCons (mTup (mCons (mC (W.str "inputs")) mNil)) mNil))) (mGN 4))
  (mSeq (mAsg (mOp mAdd (mVar 4) (mLc (mILst (mDGet (mVar 1) (mC (W.str "open")))) (.nm 5) mYes (e0_L_c_e r0 r1) [5])) (mGN 4))
  (mRet (mOp mIx (mVar 4) (mOp mIx (mLst (mCons (mCall 2 m_L_draw (mCons (mVar 0) (mCons (mCB mLen (mCons (mVar 4) mNil)) mNil))) (mCons (mOp mSub (mCB mLen (mCons (mVar 4) mNil)) (mC (W.int 1))) mNil))) (mCall 2 m_L_draw (mCons (mVar 0) (mCons (mC (W.int 2)) mNil))))))))
theorem t_leaf {op : List Int} {nx fu : Int} {st : Sto} (h : Gv i v zs prW pr op nx g fu st) (r0 r1 : MF) (x2 x3 x4 x5 x6 x7 x8 : Option W) (k : Nat) :
    ∃ (e : Ex) (st' : Sto), leafS r0 r1 [some (.ref i), some (.ref v), x2, x3, x4, x5, x6, x7, x8] st = .rt (encE e) st' ∧ rE zs.length pr op e = true ∧ fineE (k + 1) e ∧ Gv i v zs prW pr op nx g fu st' ∧ Only [i, v] st st' := by
  obtain ⟨q, s1, e1, d1, q0, q1⟩ := t_draw st i 65536 h.bg (by omega) (by omega)
  have h1 := h.draw d1
  obtain ⟨w, s2, e2, d2, hw⟩ := t_one h1.bg [.int 0, .int 1, .int 2, .int 3, .int 65535, .int q] (by simp) (by simp)
  have h2 := h1.draw d2
  obtain ⟨n, rfl, hn0, hn1⟩ : ∃ n : Int, w = .int n ∧ 0 ≤ n ∧ n ≤ 65535 := by
    simp only [List.mem_cons, List.not_mem_nil, or_false] at hw
    rcases hw with rfl | rfl | rfl | rfl | rfl | rfl
    · exact ⟨_, rfl, by omega, by omega⟩
    · exact ⟨_, rfl, by omega, by omega⟩
    · exact ⟨_, rfl, by omega, by omega⟩
    · exact ⟨_, rfl, by omega, by omega⟩
    · exact ⟨_, rfl, by omega, by omega⟩
    · exact ⟨_, rfl, by omega, by omega⟩
  obtain ⟨ES, hES⟩ : ∃ ES : List Ex, ES = [Ex.num n, Ex.inputs] ++ op.map Ex.slot := ⟨_, rfl⟩
  have hESl : ES.length = op.length + 2 := by rw [hES]; simp
  have ho8 := h.o8
  have okE : ∀ e ∈ ES, rE zs.length pr op e = true ∧ fineE (k + 1) e := fun e he => by
    rw [hES] at he
    simp only [List.mem_append, List.mem_cons, List.not_mem_nil, or_false, List.mem_map] at he
    rcases he with (rfl | rfl) | ⟨s, hs, rfl⟩
    · exact ⟨by simp [rE], by simp only [fineE]; exact ⟨hn0, hn1⟩⟩
    · exact ⟨by simp [rE], by simp [fineE]⟩
    · exact ⟨by simp [rE, hs], by simp only [fineE]; exact h.ov s hs⟩
  have hob2 := h2.ob
  have s3 : (mAsg (mLst (mCons (mTup (mCons (mC (W.str "number")) (mCons (mCall 2 m_L_one (mCons (mVar 0) (mCons (mLst (mCons (mC (W.int 0)) (mCons (mC (W.int 1)) (mCons (mC (W.int 2)) (mCons (mC (W.int 3)) (mCons (mC (W.int 65535)) (mCons (mCall 2 m_L_draw (mCons (mVar 0) (mCons (mC (W.int 65536)) mNil))) mNil))))))) mNil))) mNil))) (mCons (mTup (mCons (mC (W.str "inputs")) mNil)) mNil))) (mGN 4)) [some (.ref i), some (.ref v), x2, x3, x4, x5, x6, x7, x8] st = .nx [some (.ref i), some (.ref v), x2, x3, some (.lst [encE (.num n), encE .inputs]), x5, x6, x7, x8] s2 := by simp [e1, e2, encE, sizeLine_eq]
  have z := mLc_of (it := mILst (mDGet (mVar 1) (mC (W.str "open")))) (n := .nm 5) (t := mYes) (e := e0_L_c_e r0 r1) (vs := [5]) (s := [some (.ref i), some (.ref v), x2, x3, some (.lst [encE (.num n), encE .inputs]), x5, x6, x7, x8]) (st := s2) (st1 := s2) (ws := op.map W.int) (by simp [hob2]) (by simp; omega) (fun _ => true) (fun w => match w with | .int s => encE (.slot s) | _ => .non) (fun w hw => ⟨_, rfl, rfl, fun _ => by
    obtain ⟨s, hs, rfl⟩ := List.mem_map.mp hw
    simp [e0_L_c_e, wipeW, encE, sizeLine_eq]⟩)
  have z2 : (((op.map W.int).filter fun _ => true).map (fun w : W => match w with | .int s => encE (.slot s) | _ => .non)) = op.map fun s => encE (.slot s) := by simp [List.filter_eq_self.mpr]
  rw [z2] at z
  have hEW : [encE (.num n), encE .inputs] ++ op.map (fun s => encE (.slot s)) = ES.map encE := by rw [hES, List.map_append, List.map_map]; rfl
  have hz : op.length ≤ 16777216 := by omega
  have s4 : (mAsg (mOp mAdd (mVar 4) (mLc (mILst (mDGet (mVar 1) (mC (W.str "open")))) (.nm 5) mYes (e0_L_c_e r0 r1) [5])) (mGN 4)) [some (.ref i), some (.ref v), x2, x3, some (.lst [encE (.num n), encE .inputs]), x5, x6, x7, x8] s2 = .nx [some (.ref i), some (.ref v), x2, x3, some (.lst (ES.map encE)), x5, x6, x7, x8] s2 := by
    rw [← hEW]
    simp [-mLc, z, sizeLine_eq, show 2 + op.length ≤ 16777216 by omega]
  obtain ⟨p, s5, e5, d5, p0, p1⟩ := t_draw s2 i (ES.length : Int) h2.bg (by omega) (by omega)
  have h5 := h2.draw d5
  obtain ⟨b, s6, e6, d6, b0, b1⟩ := t_draw s5 i 2 h5.bg (by omega) (by omega)
  have h6 := h5.draw d6
  obtain ⟨x, hx0, hx1, hxx⟩ : ∃ x : Int, 0 ≤ x ∧ x < (ES.length : Int) ∧ atI [W.int p, W.int ((ES.length : Int) - 1)] b = some (.int x) := by
    have : b = 0 ∨ b = 1 := by omega
    rcases this with rfl | rfl
    · exact ⟨p, p0, p1, rfl⟩
    · exact ⟨(ES.length : Int) - 1, by omega, by omega, rfl⟩
  obtain ⟨xn, rfl⟩ : ∃ xn : Nat, x = (xn : Int) := ⟨x.toNat, by omega⟩
  have hxl : xn < ES.length := by omega
  have hat : atI (ES.map encE) (xn : Int) = some (encE ES[xn]) := by rw [Mi.atI_nat]; simp [hxl]
  have oo : Only [i, v] st s6 := (((d1.o.trans d2.o (fun a ha _ => ha)).trans d5.o (fun a ha _ => ha)).trans d6.o (fun a ha _ => ha)).mono (fun a ha _ => by simp only [List.mem_singleton] at ha; simp [ha])
  refine ⟨ES[xn], s6, ?_, (okE _ (List.getElem_mem _)).1, (okE _ (List.getElem_mem _)).2, h6, oo⟩
  refine seq_nx s3 (seq_nx s4 ?_)
  have hlz : (ES.map encE).length ≤ 16777216 := by simp; omega
  have hlz2 : ES.length ≤ 16777216 := by omega
  simp [sizeLine_eq, hlz2, e5, e6, hxx, hat]
theorem t_c_e : ∀ (dep : Nat), 1 ≤ dep → ∀ (f : Nat), 2 * dep ≤ f + 1 → ∀ (op : List Int) (nx fu : Int) (st : Sto), Gv i v zs prW pr op nx g fu st → GE i v zs prW pr op nx g fu dep st (m_L_c_e f [.ref i, .ref v, .int (dep : Int)] st) := by
  intro dep
  induction dep with
  | zero => intro h; omega
  | succ dep ih =>
    intro _ f hf op nx fu st h
    obtain ⟨f, rfl⟩ : ∃ g, f = g + 1 := ⟨f - 1, by omega⟩
    obtain ⟨s1, hs1⟩ : ∃ s1, s1 = st.set v (.dK (evL zs prW op nx g (fu - 1))) := ⟨_, rfl⟩
    have h1 : Gv i v zs prW pr op nx g (fu - 1) s1 := by rw [hs1]; exact h.put h.o8 h.ov
    have o1 : Only [i, v] st s1 := by rw [hs1]; exact Only.set (by simp)
    have hob := h.ob
    obtain ⟨p, s2, e2, d2, p0, p1⟩ := t_draw s1 i 14 h1.bg (by omega) (by omega)
    have h2 := h1.draw d2
    have o2 : Only [i, v] st s2 := o1.trans d2.o (fun a ha _ => by simp only [List.mem_singleton] at ha; simp [ha])
    have hob2 := h2.ob
    have hd : ∀ (w : W) (st' : Sto), b_L_c_e (R_L_c_e f 0) (R_L_c_e f 1) [some (.ref i), some (.ref v), some (.int ((dep + 1 : Nat) : Int)), none, none, none, none, none, none] st = .rt w st' → m_L_c_e (f + 1) [.ref i, .ref v, .int ((dep + 1 : Nat) : Int)] st = .ok w st' := fun w st' e => def_rt (n := 3) (k := 6) rfl e
    have pre : ∀ (rest : MS) (o : SO), rest [some (.ref i), some (.ref v), some (.int ((dep + 1 : Nat) : Int)), some (.int p), none, none, none, none, none] s2 = o → mSeq (mDPut (mVar 1) (mC (W.str "fuel")) (mOp mSub (mDGet (mVar 1) (mC (W.str "fuel"))) (mC (W.int 1)))) (mSeq (mAsg (mCall 2 m_L_draw (mCons (mVar 0) (mCons (mC (W.int 14)) mNil))) (mGN 3)) rest) [some (.ref i), some (.ref v), some (.int ((dep + 1 : Nat) : Int)), none, none, none, none, none, none] st = o := fun rest o ho => by
      generalize ((dep + 1 : Nat) : Int) = D at *
      refine seq_nx (s1 := [some (.ref i), some (.ref v), some (.int D), none, none, none, none, none, none]) (st1 := s1) (by rw [hs1]; simp [hob, ep5, sizeLine_eq]) ?_
      exact seq_nx (s1 := [some (.ref i), some (.ref v), some (.int D), some (.int p), none, none, none, none, none]) (st1 := s2) (by simp [e2]) ho
    by_cases hleaf : ((dep + 1 : Nat) : Int) < 2 ∨ fu - 1 < 1 ∨ p < 4
    · obtain ⟨e, s3, e3, r3, f3, h3, o3⟩ := t_leaf h2 (R_L_c_e f 0) (R_L_c_e f 1) (some (.int ((dep + 1 : Nat) : Int))) (some (.int p)) none none none none none dep
      refine ⟨e, fu - 1, s3, hd _ _ ?_, r3, f3, by omega, h3, o2.trans o3 (fun a ha _ => ha)⟩
      unfold b_L_c_e
      refine pre _ _ (seq_rt (ifS_true (st1 := s2) ?_ e3))
      generalize ((dep + 1 : Nat) : Int) = D at *
      by_cases c1 : D < 2
      · simp [c1]
      · by_cases c2 : fu - 1 < 1
        · simp [c1, hob2, c2]
        · have c3 : p < 4 := by omega
          simp [c1, hob2, c2, c3]
    · have hD : ¬ ((dep + 1 : Nat) : Int) < 2 := fun z => hleaf (.inl z)
      have hF : ¬ fu - 1 < 1 := fun z => hleaf (.inr (.inl z))
      have hP : ¬ p < 4 := fun z => hleaf (.inr (.inr z))
      have ihd := ih (by omega) f (by omega)
      have sub : ∀ (op : List Int) (nx fu : Int) (st : Sto), Gv i v zs prW pr op nx g fu st → GE i v zs prW pr op nx g fu dep st (R_L_c_e f 0 [.ref i, .ref v, .int (dep : Int)] st) := ihd
      have hdd : ((dep + 1 : Nat) : Int) - 1 = (dep : Int) := by omega
      have nl : ∀ (a : MS) (rest : MS) (o : SO), rest [some (.ref i), some (.ref v), some (.int ((dep + 1 : Nat) : Int)), some (.int p), none, none, none, none, none] s2 = o → mSeq (mIfS (mTOr (mTest (mOp mLt (mVar 2) (mC (W.int 2)))) (mTOr (mTest (mOp mLt (mDGet (mVar 1) (mC (W.str "fuel"))) (mC (W.int 1)))) (mTest (mOp mLt (mVar 3) (mC (W.int 4)))))) a mSkip) rest [some (.ref i), some (.ref v), some (.int ((dep + 1 : Nat) : Int)), some (.int p), none, none, none, none, none] s2 = o := fun a rest o ho => by
        generalize ((dep + 1 : Nat) : Int) = D at *
        exact seq_nx (ifS_false (st1 := s2) (by simp [hD, hob2, hF, hP]) rfl) ho
      generalize hDD : ((dep + 1 : Nat) : Int) = D at *
      have ob2 := h2.ob
      have z8 := h.z8
      -- one part
      by_cases c4 : p = 4
      · obtain ⟨e, fu3, s3, e3, r3, f3, l3, h3, o3⟩ := (sub op nx (fu - 1) s2 h2).ex
        refine ⟨.not e, fu3, s3, hd _ _ ?_, by rw [rE]; exact r3, by simp only [fineE]; exact f3, by omega, h3, o2.trans o3 (fun a ha _ => ha)⟩
        unfold b_L_c_e
        refine pre _ _ (nl _ _ _ (seq_rt (ifS_true (st1 := s2) (by simp [c4]) ?_)))
        simp [hdd, e3, encE, sizeLine_eq]
      by_cases c6 : p = 6
      · obtain ⟨e, fu3, s3, e3, r3, f3, l3, h3, o3⟩ := (sub op nx (fu - 1) s2 h2).ex
        refine ⟨.input e, fu3, s3, hd _ _ ?_, by rw [rE]; exact r3, by simp only [fineE]; exact f3, by omega, h3, o2.trans o3 (fun a ha _ => ha)⟩
        unfold b_L_c_e
        refine pre _ _ (nl _ _ _ (seq_nx (ifS_false (st1 := s2) (by simp [c4]) rfl) (seq_nx (ifS_false (st1 := s2) (by simp [c6]) rfl) (seq_rt (ifS_true (st1 := s2) (by simp [c6]) ?_)))))
        simp [hdd, e3, encE, sizeLine_eq]
      by_cases c5 : p = 5 ∧ 0 < zs.length
      · obtain ⟨c5, c5z⟩ := c5
        obtain ⟨t, s3, e3, d3, t0, t1⟩ := t_draw s2 i (zs.length : Int) h2.bg (by omega) (by omega)
        have h3 := h2.draw d3
        obtain ⟨e, fu4, s4, e4, r4, f4, l4, h4, o4⟩ := (sub op nx (fu - 1) s3 h3).ex
        refine ⟨.tab t e, fu4, s4, hd _ _ ?_, by rw [rE, r4, decide_eq_true t1]; rfl, by simp only [fineE]; exact ⟨t0, f4⟩, by omega, h4, (o2.trans d3.o (fun a ha _ => by simp only [List.mem_singleton] at ha; simp [ha])).trans o4 (fun a ha _ => ha)⟩
        unfold b_L_c_e
        have hzl : zs.length ≤ 16777216 := by omega
        refine pre _ _ (nl _ _ _ (seq_nx (ifS_false (st1 := s2) (by simp [c4]) rfl) (seq_rt (ifS_true (st1 := s2) (by simp [c5, ob2, sizeLine_eq, hzl]; omega) ?_))))
        simp [ob2, sizeLine_eq, hzl, e3, hdd, e4, encE]
      by_cases c7 : p = 7 ∧ 0 < pr.length
      · obtain ⟨c7, c7p⟩ := c7
        have hp8 := h.p8
        obtain ⟨t, s3, e3, d3, t0, t1⟩ := t_draw s2 i (pr.length : Int) h2.bg (by omega) (by omega)
        have h3 := h2.draw d3
        have pl2 := h2.plen
        obtain ⟨f, rfl⟩ : ∃ g, f = g + 1 := ⟨f - 1, by omega⟩
        obtain ⟨a, fu4, s4, e4, r4, ck4, n4, f4, l4, h4, o4⟩ := (t_c_args (f := f) (dep := dep) (ih (by omega) f (by omega)) h3 t0 t1).ex
        have e4' : R_L_c_e (f + 1) 1 [.ref i, .ref v, .int t, .int (dep : Int)] s3 = .ok (.tup (encEs a)) s4 := e4
        refine ⟨.call t a, fu4, s4, hd _ _ ?_, by rw [rE, ck4, r4]; rfl, by simp only [fineE]; exact ⟨t0, n4, f4⟩, by omega, h4, (o2.trans d3.o (fun a ha _ => by simp only [List.mem_singleton] at ha; simp [ha])).trans o4 (fun a ha _ => ha)⟩
        unfold b_L_c_e
        refine pre _ _ (nl _ _ _ (seq_nx (ifS_false (st1 := s2) (by simp [c4]) rfl) (seq_nx (ifS_false (st1 := s2) (by simp [c7]) rfl) (seq_nx (ifS_false (st1 := s2) (by simp [c6]) rfl) (seq_rt (ifS_true (st1 := s2) (by simp [-mLen, c7, ob2, pl2]; omega) ?_))))))
        refine seq_nx (s1 := [some (.ref i), some (.ref v), some (.int D), some (.int p), none, none, some (.int t), none, none]) (st1 := s3) (by simp [-mLen, ob2, pl2, e3]) ?_
        simp [hdd, e4', encE, sizeLine_eq]
      -- two parts
      obtain ⟨a, fu3, s3, e3, r3, f3, l3, h3, o3⟩ := (sub op nx (fu - 1) s2 h2).ex
      obtain ⟨b, fu4, s4, e4, r4, f4, l4, h4, o4⟩ := (sub op nx fu3 s3 h3).ex
      have o24 := (o2.trans o3 (fun a ha _ => ha)).trans o4 (fun a ha _ => ha)
      have hzl : zs.length ≤ 16777216 := by omega
      have pl2 := h2.plen
      have skip : ∀ (rest : MS) (o : SO), rest [some (.ref i), some (.ref v), some (.int D), some (.int p), none, none, none, some (encE a), some (encE b)] s4 = o → ∀ (x1 x2 x3 x4 : MS), mSeq (mIfS (mTest (mOp mEq (mVar 3) (mC (W.int 4)))) x1 mSkip) (mSeq (mIfS (mTAnd (mTest (mOp mEq (mVar 3) (mC (W.int 5)))) (mTest (mOp mGt (mCB mLen (mCons (mDGet (mVar 1) (mC (W.str "sizes"))) mNil)) (mC (W.int 0))))) x2 mSkip) (mSeq (mIfS (mTest (mOp mEq (mVar 3) (mC (W.int 6)))) x3 mSkip) (mSeq (mIfS (mTAnd (mTest (mOp mEq (mVar 3) (mC (W.int 7)))) (mTest (mOp mGt (mCB mLen (mCons (mDGet (mVar 1) (mC (W.str "params"))) mNil)) (mC (W.int 0))))) x4 mSkip)
          (mSeq (mAsg (mCall 3 (R_L_c_e f 0) (mCons (mVar 0) (mCons (mVar 1) (mCons (mOp mSub (mVar 2) (mC (W.int 1))) mNil)))) (mGN 7)) (mSeq (mAsg (mCall 3 (R_L_c_e f 0) (mCons (mVar 0) (mCons (mVar 1) (mCons (mOp mSub (mVar 2) (mC (W.int 1))) mNil)))) (mGN 8)) rest))))) [some (.ref i), some (.ref v), some (.int D), some (.int p), none, none, none, none, none] s2 = o := fun rest o ho x1 x2 x3 x4 => by
        refine seq_nx (ifS_false (st1 := s2) (by simp [c4]) rfl) ?_
        refine seq_nx (ifS_false (st1 := s2) (by
          by_cases q5 : p = 5
          · have : ¬ 0 < zs.length := fun z => c5 ⟨q5, z⟩
            have hz0 : zs.length = 0 := by omega
            simp [q5, ob2, sizeLine_eq, hzl, hz0]
          · simp [q5]) rfl) ?_
        refine seq_nx (ifS_false (st1 := s2) (by simp [c6]) rfl) ?_
        refine seq_nx (ifS_false (st1 := s2) (by
          by_cases q7 : p = 7
          · have : ¬ 0 < pr.length := fun z => c7 ⟨q7, z⟩
            have hz0 : pr.length = 0 := by omega
            rw [hz0] at pl2
            simp [-mLen, q7, ob2, pl2]
          · simp [q7]) rfl) ?_
        refine seq_nx (s1 := [some (.ref i), some (.ref v), some (.int D), some (.int p), none, none, none, some (encE a), none]) (st1 := s3) (by simp [hdd, e3]) ?_
        exact seq_nx (s1 := [some (.ref i), some (.ref v), some (.int D), some (.int p), none, none, none, some (encE a), some (encE b)]) (st1 := s4) (by simp [hdd, e4]) ho
      by_cases c8 : p = 8
      · obtain ⟨w, s5, e5, d5, hw⟩ := t_one h4.bg [.str "and", .str "or"] (by simp) (by simp)
        obtain ⟨o, rfl⟩ : ∃ o : Bool, w = .str (lgS o) := by
          simp only [List.mem_cons, List.not_mem_nil, or_false] at hw
          rcases hw with rfl | rfl
          · exact ⟨false, rfl⟩
          · exact ⟨true, rfl⟩
        refine ⟨.lg o a b, fu4, s5, hd _ _ ?_, by rw [rE, r3, r4]; rfl, by simp only [fineE]; exact ⟨f3, f4⟩, by omega, h4.draw d5, o24.trans d5.o (fun a ha _ => by simp only [List.mem_singleton] at ha; simp [ha])⟩
        unfold b_L_c_e
        refine pre _ _ (nl _ _ _ (skip _ _ (seq_rt (ifS_true (st1 := s4) (by simp [c8]) ?_)) _ _ _ _))
        simp [-lgS, e5, encE, sizeLine_eq]
      · obtain ⟨w, s5, e5, d5, hw⟩ := t_one h4.bg [.str "+", .str "-", .str "*", .str "/", .str "mod", .str "==", .str "!=", .str "<", .str "<=", .str ">", .str ">=", .str "+", .str "+", .str "-", .str "<"] (by simp) (by simp)
        obtain ⟨z, rfl, hz⟩ : ∃ z, w = .str z ∧ z ∈ signs := by
          simp only [List.mem_cons, List.not_mem_nil, or_false] at hw
          rcases hw with rfl | rfl | rfl | rfl | rfl | rfl | rfl | rfl | rfl | rfl | rfl | rfl | rfl | rfl | rfl <;> exact ⟨_, rfl, by simp [signs]⟩
        refine ⟨.op z a b, fu4, s5, hd _ _ ?_, by rw [rE, r3, r4]; rfl, by simp only [fineE]; exact ⟨hz, f3, f4⟩, by omega, h4.draw d5, o24.trans d5.o (fun a ha _ => by simp only [List.mem_singleton] at ha; simp [ha])⟩
        unfold b_L_c_e
        refine pre _ _ (nl _ _ _ (skip _ _ (seq_nx (ifS_false (st1 := s4) (by simp [c8]) rfl) ?_) _ _ _ _))
        simp [e5, encE, sizeLine_eq]
end
end Gn

namespace Gn
open PySem L2 Mi
/-! ### drawn statements -/
theorem fineEs_mono {k m : Nat} (h : ∀ e : Ex, fineE k e → fineE m e) : ∀ a : Exs, fineEs k a → fineEs m a
  | .nil, _ => by rw [fineEs]; trivial
  | .cons e r, hf => by rw [fineEs] at hf ⊢; exact ⟨h e hf.1, fineEs_mono h r hf.2⟩
theorem fineE_mono : ∀ (k m : Nat) (e : Ex), k ≤ m → fineE k e → fineE m e := by
  intro k
  induction k with
  | zero => intro m e _ h; cases e <;> simp [fineE] at h
  | succ k ih =>
    intro m e hm h
    obtain ⟨m, rfl⟩ : ∃ n, m = n + 1 := ⟨m - 1, by omega⟩
    have ih' := fun e => ih m e (by omega)
    cases e <;> simp only [fineE] at h ⊢
    · exact h
    · exact h
    · exact ⟨h.1, ih' _ h.2⟩
    · exact ⟨h.1, h.2.1, fineEs_mono ih' _ h.2.2⟩
    · exact ih' _ h
    · exact ih' _ h
    · exact ⟨h.1, ih' _ h.2.1, ih' _ h.2.2⟩
    · exact ⟨ih' _ h.1, ih' _ h.2⟩
mutual
/-- no body is long -/
def lnS : Sm' → Bool
  | .ite _ a b => lnB a && lnB b
  | .whl _ b => lnB b
  | _ => true
def lnB : Sms → Bool
  | .nil => true
  | .cons s r => decide ((encSs r).length ≤ 20) && (lnS s && lnB r)
end
/-- slots and fuel -/
structure Iv (C : Int) (op : List Int) (nx fu : Int) : Prop where
  a : (op.length : Int) ≤ nx
  b : nx ≤ C
  c : nx + fu ≤ C
section
variable {i v : Nat} {zs : List W} {prW : W} {pr : List Int} {g : Bool}
theorem Gv.only {op : List Int} {nx fu : Int} {A : List Nat} {st st' : Sto} (h : Gv i v zs prW pr op nx g fu st) (o : Only A st st') (hi : i ∉ A) (hv : v ∉ A) (hp : ∀ p, prW = .ref p → p ∉ A) : Gv i v zs prW pr op nx g fu st' := by
  obtain ⟨a, b, c, e⟩ := h.bg
  exact ⟨⟨a, b, c, o.rd e hi⟩, o.rd h.ob hv, asL_only h.pw o hp, h.pn, h.iv, h.z8, h.p8, h.pv, h.o8, h.ov⟩
/-- what a body's drawing comes to -/
structure GB (i v : Nat) (zs : List W) (prW : W) (pr op : List Int) (nx : Int) (g : Bool) (fu C : Int) (dep : Nat) (st : Sto) (out : Out W) : Prop where
  ex : ∃ (ss : Sms) (op1 : List Int) (nx' fu' : Int) (st' : Sto), out = .ok (.tup (encSs ss)) st' ∧ (encSs ss).length ≤ 20 ∧ rB zs.length pr g ss op nx = some (op1, nx') ∧ (fineSs dep ss ∧ lnB ss = true) ∧ fu' ≤ fu ∧ Gv i v zs prW pr op nx' g fu' st' ∧ Iv C op nx' fu' ∧ Only [i, v] st st'
structure GS (i v : Nat) (zs : List W) (prW : W) (pr op : List Int) (nx : Int) (g : Bool) (fu C : Int) (dep : Nat) (st : Sto) (out : Out W) : Prop where
  ex : ∃ (s : Sm') (op1 : List Int) (nx' fu' : Int) (st' : Sto), out = .ok (encS s) st' ∧ rS zs.length pr g s op nx = some (op1, nx') ∧ op <+: op1 ∧ (fineS dep s ∧ lnS s = true) ∧ fu' ≤ fu ∧ Gv i v zs prW pr op1 nx' g fu' st' ∧ Iv C op1 nx' fu' ∧ Only [i, v] st st'
theorem t_c_body {C : Int} {D dep f : Nat} (most : Nat) (hm : most ≤ 19) (hs : ∀ (op : List Int) (nx fu : Int) (st : Sto), Gv i v zs prW pr op nx g fu st → Iv C op nx fu → 0 < fu → GS i v zs prW pr op nx g fu C dep st (m_L_c_s f [.ref i, .ref v, .int (D : Int)] st)) {op : List Int} {nx fu : Int} {st : Sto} (h : Gv i v zs prW pr op nx g fu st) (hI : Iv C op nx fu) :
    GB i v zs prW pr op nx g fu C dep st (m_L_c_body (f + 1) [.ref i, .ref v, .int (D : Int), .int (most : Int)] st) := by
  have ho8 := h.o8
  have hob := h.ob
  obtain ⟨L, hL⟩ : ∃ L, L = st.length := ⟨_, rfl⟩
  have hi : i < L := by
    obtain ⟨a, b, c, e⟩ := h.bg
    have := (List.getElem?_eq_some_iff.mp e).1
    omega
  have hv : v < L := by
    have := (List.getElem?_eq_some_iff.mp hob).1
    omega
  have hp : ∀ p, prW = .ref p → p ∉ [L] := by
    intro p e z
    have e2 := h.pw
    rw [e] at e2
    simp only [asL] at e2
    split at e2
    · rename_i ws hw
      have := (List.getElem?_eq_some_iff.mp hw).1
      simp only [List.mem_singleton] at z
      omega
    · cases e2
  obtain ⟨n, hn⟩ : ∃ n : Int, n = (op.length : Int) := ⟨_, rfl⟩
  have loop : ∀ (ws : List W) (op' : List Int) (nx fu : Int) (st : Sto) (acc : List W) (x6 : Option W), Gv i v zs prW pr op' nx g fu st → Iv C op' nx fu → st[L]? = some (.lst acc) → acc.length + ws.length ≤ 20 →
      ∃ (ss : Sms) (op2 : List Int) (nx2 fu2 : Int) (st2 : Sto) (y6 : Option W), runL (mGN 6) (l0_L_c_body (R_L_c_body f 0) (R_L_c_body f 1)) ws [some (.ref i), some (.ref v), some (.int (D : Int)), some (.int (most : Int)), some (.int n), some (.ref L), x6] st = .nx [some (.ref i), some (.ref v), some (.int (D : Int)), some (.int (most : Int)), some (.int n), some (.ref L), y6] st2 ∧
        (encSs ss).length ≤ ws.length ∧ rB zs.length pr g ss op' nx = some (op2, nx2) ∧ op' <+: op2 ∧ (fineSs dep ss ∧ lnB ss = true) ∧ fu2 ≤ fu ∧ Gv i v zs prW pr op2 nx2 g fu2 st2 ∧ Iv C op2 nx2 fu2 ∧ st2[L]? = some (.lst (acc ++ encSs ss)) ∧ Only [i, v, L] st st2 := by
    intro ws
    induction ws with
    | nil =>
      intro op' nx fu st acc x6 h hI hl hz
      exact ⟨.nil, op', nx, fu, st, x6, rfl, by simp [encSs], by rw [rB], List.prefix_refl _, ⟨by rw [fineSs]; trivial, by rw [lnB]⟩, by omega, h, hI, by simp [encSs, hl], Only.refl _ _⟩
    | cons w ws ih =>
      intro op' nx fu st acc x6 h hI hl hz
      have hob := h.ob
      simp only [List.length_cons] at hz
      by_cases hf : 0 < fu
      · obtain ⟨s, op1, nx1, fu1, st1, e1, r1, p1, f1, l1, h1, I1, o1⟩ := (hs op' nx fu st h hI hf).ex
        have hl1 : st1[L]? = some (.lst acc) := o1.rd hl (by simp only [List.mem_cons, List.not_mem_nil, or_false]; omega)
        have hll := (List.getElem?_eq_some_iff.mp hl1).1
        have o2 : Only [L] st1 (st1.set L (.lst (acc ++ [encS s]))) := Only.set (by simp)
        have h2 := h1.only o2 (by simp only [List.mem_singleton]; omega) (by simp only [List.mem_singleton]; omega) hp
        obtain ⟨ss, op2, nx2, fu2, st2, y6, e3, n3, r3, p3, f3, l3, h3, I3, hl3, o3⟩ := ih op1 nx1 fu1 (st1.set L (.lst (acc ++ [encS s]))) (acc ++ [encS s]) (some w) h2 I1 (List.getElem?_set_self hll) (by simp; omega)
        refine ⟨.cons s ss, op2, nx2, fu2, st2, y6, ?_, by simp [encSs]; omega, by rw [rB, r1]; exact r3, p1.trans p3, ⟨by rw [fineSs]; exact ⟨f1.1, f3.1⟩, by rw [lnB, f1.2, f3.2, decide_eq_true (show (encSs ss).length ≤ 20 by omega)]; rfl⟩, by omega, h3, I3, by rw [hl3]; simp [encSs], ((o1.mono (B := [i, v, L]) (fun a ha _ => by simp at ha ⊢; rcases ha with h | h <;> simp [h])).trans o2 (fun a ha _ => by simp at ha ⊢; simp [ha])).trans o3 (fun a ha _ => ha)⟩
        have e1' : R_L_c_body f 1 [.ref i, .ref v, .int (D : Int)] st = .ok (encS s) st1 := e1
        have hb : l0_L_c_body (R_L_c_body f 0) (R_L_c_body f 1) [some (.ref i), some (.ref v), some (.int (D : Int)), some (.int (most : Int)), some (.int n), some (.ref L), some w] st = .nx [some (.ref i), some (.ref v), some (.int (D : Int)), some (.int (most : Int)), some (.int n), some (.ref L), some w] (st1.set L (.lst (acc ++ [encS s]))) := by
          have : acc.length < 16777216 := by omega
          simp [l0_L_c_body, hob, hf, e1', hl, hl1, asL, sizeLine_eq, this]
        have hg : (mGN 6) w [some (.ref i), some (.ref v), some (.int (D : Int)), some (.int (most : Int)), some (.int n), some (.ref L), x6] st = some ([some (.ref i), some (.ref v), some (.int (D : Int)), some (.int (most : Int)), some (.int n), some (.ref L), some w], st) := rfl
        simp only [runL, hg, hb, e3]
      · obtain ⟨ss, op2, nx2, fu2, st2, y6, e3, n3, r3, p3, f3, l3, h3, I3, hl3, o3⟩ := ih op' nx fu st acc (some w) h hI hl (by omega)
        refine ⟨ss, op2, nx2, fu2, st2, y6, ?_, by simp; omega, r3, p3, f3, l3, h3, I3, hl3, o3⟩
        have hb : l0_L_c_body (R_L_c_body f 0) (R_L_c_body f 1) [some (.ref i), some (.ref v), some (.int (D : Int)), some (.int (most : Int)), some (.int n), some (.ref L), some w] st = .nx [some (.ref i), some (.ref v), some (.int (D : Int)), some (.int (most : Int)), some (.int n), some (.ref L), some w] st := by
          simp [l0_L_c_body, hob, hf]
        have hg : (mGN 6) w [some (.ref i), some (.ref v), some (.int (D : Int)), some (.int (most : Int)), some (.int n), some (.ref L), x6] st = some ([some (.ref i), some (.ref v), some (.int (D : Int)), some (.int (most : Int)), some (.int n), some (.ref L), some w], st) := rfl
        simp only [runL, hg, hb, e3]
  have oA : Only [] st (st ++ [.lst []]) := Only.app _ _ _
  have hA := h.only oA (by simp) (by simp) (by simp)
  obtain ⟨q, s1, e1, d1, q0, q1⟩ := t_draw (st ++ [.lst []]) i ((most : Int) + 1) hA.bg (by omega) (by omega)
  obtain ⟨q, rfl⟩ : ∃ k : Nat, q = (k : Int) := ⟨q.toNat, by omega⟩
  have h1 := hA.draw d1
  have hl1 : s1[L]? = some (.lst []) := d1.rd (by rw [hL]; simp) (by omega)
  obtain ⟨ss, op2, nx2, fu2, st2, y6, e3, n3, r3, p3, f3, l3, h3, I3, hl3, o3⟩ := loop (rngW 0 q) op nx fu s1 [] none h1 hI hl1 (by simp; omega)
  simp only [List.nil_append] at hl3
  have hlen : (encSs ss).length ≤ 20 := by simp at n3; omega
  have htk : op2.take op.length = op := (List.prefix_iff_eq_take.mp p3).symm
  have h4 := h3.put (op' := op) (nx' := nx2) (fu' := fu2) h.o8 h.ov
  have I4 : Iv C op nx2 fu2 := ⟨by have := I3.a; have := p3.length_le; omega, I3.b, I3.c⟩
  have hob3 := h3.ob
  have hp8 : op2.length ≤ 16777216 := by have := h3.o8; omega
  have hcut : cutW (op2.map W.int) none (some (op.length : Int)) = op.map W.int := by
    rw [cutA, ← List.map_take, htk]
  refine ⟨ss, op2, nx2, fu2, st2.set v (.dK (evL zs prW op nx2 g fu2)), ?_, hlen, r3, f3, l3, h4, I4, ?_⟩
  · refine def_rt (n := 4) (k := 3) rfl ?_
    show b_L_c_body (R_L_c_body f 0) (R_L_c_body f 1) [some (.ref i), some (.ref v), some (.int (D : Int)), some (.int (most : Int)), none, none, none] st = _
    unfold b_L_c_body
    have hz : op.length ≤ 16777216 := by omega
    refine seq_nx (s1 := [some (.ref i), some (.ref v), some (.int (D : Int)), some (.int (most : Int)), some (.int n), none, none]) (st1 := st) (by simp [hob, sizeLine_eq, hz, hn]) ?_
    refine seq_nx (s1 := [some (.ref i), some (.ref v), some (.int (D : Int)), some (.int (most : Int)), some (.int n), some (.ref L), none]) (st1 := st ++ [.lst []]) (by simp [hL]) ?_
    refine seq_nx (mFor_runL (st1 := s1) (ws := rngW 0 q) (rng1_nat (by simp [e1]) (by omega)) e3) ?_
    refine seq_nx (s1 := [some (.ref i), some (.ref v), some (.int (D : Int)), some (.int (most : Int)), some (.int n), some (.ref L), y6]) (st1 := st2.set v (.dK (evL zs prW op nx2 g fu2))) ?_ ?_
    · rw [hn]
      simp [hob3, hcut, ep2, sizeLine_eq]
    · have hl4 : (st2.set v (.dK (evL zs prW op nx2 g fu2)))[L]? = some (.lst (encSs ss)) := by rw [List.getElem?_set_ne (by omega)]; exact hl3
      have : (encSs ss).length ≤ 16777216 := by omega
      simp [hl4, asL, sizeLine_eq, this]
  · refine ⟨by have := oA.1; have := d1.o.1; have := o3.1; simp at *; omega, fun j hj hn => ?_⟩
    simp only [List.mem_cons, List.not_mem_nil, or_false, not_or] at hn
    rw [List.getElem?_set_ne (fun z => hn.2 z.symm)]
    have a1 := oA.2 j hj (by simp)
    have a2 := d1.o.2 j (by simp; omega) (by simp [hn.1])
    have a3 := o3.2 j (by have := d1.o.1; simp at this; omega) (by simp [hn.1, hn.2]; omega)
    rw [a3, a2, a1]
end
end Gn

namespace Gn
open PySem L2 Mi
section
variable {i v : Nat} {zs : List W} {prW : W} {pr : List Int} {g : Bool}
theorem Gv.o2 {op : List Int} {nx fu : Int} {st : Sto} (h : Gv i v zs prW pr op nx g fu st) {A : List Nat} {s1 : Sto} (o : Only [i] s1 st) : Only [i, v] s1 st := o.mono (fun a ha _ => by simp only [List.mem_singleton] at ha; simp [ha])
theorem t_c_s {C : Int} (hC : C ≤ 1000) : ∀ (dep f : Nat), 3 ≤ dep → 2 * dep ≤ f + 5 → ∀ (op : List Int) (nx fu : Int) (st : Sto), Gv i v zs prW pr op nx g fu st → Iv C op nx fu → 0 < fu → GS i v zs prW pr op nx g fu C (dep + 1) st (m_L_c_s f [.ref i, .ref v, .int (dep : Int)] st) := by
  intro dep
  induction dep with
  | zero => intro f h; omega
  | succ dep ih =>
    intro f hd3 hf op nx fu st h hI hfu
    obtain ⟨f, rfl⟩ : ∃ g, f = g + 1 := ⟨f - 1, by omega⟩
    obtain ⟨s1, hs1⟩ : ∃ s1, s1 = st.set v (.dK (evL zs prW op nx g (fu - 1))) := ⟨_, rfl⟩
    have h1 : Gv i v zs prW pr op nx g (fu - 1) s1 := by rw [hs1]; exact h.put h.o8 h.ov
    have o1 : Only [i, v] st s1 := by rw [hs1]; exact Only.set (by simp)
    have hob := h.ob
    obtain ⟨p, s2, e2, d2, p0, p1⟩ := t_draw s1 i 12 h1.bg (by omega) (by omega)
    have h2 := h1.draw d2
    have dd : ∀ {a b : Sto}, Only [i] a b → Only [i, v] a b := fun o => o.mono (fun a ha _ => by simp only [List.mem_singleton] at ha; simp [ha])
    have o2 : Only [i, v] st s2 := o1.trans (dd d2.o) (fun a ha _ => ha)
    have tr : ∀ {a b c : Sto}, Only [i, v] a b → Only [i, v] b c → Only [i, v] a c := fun x y => x.trans y (fun a ha _ => ha)
    have hob2 := h2.ob
    have pl2 := h2.plen
    have z8 := h.z8
    have p8 := h.p8
    have o8 := h.o8
    have zl : zs.length ≤ 16777216 := by omega
    have ol : op.length ≤ 16777216 := by omega
    have hIa := hI.a
    have hIb := hI.b
    have hIc := hI.c
    have Iq : ∀ fu' : Int, fu' ≤ fu - 1 → Iv C op nx fu' := fun fu' h => ⟨hIa, hIb, by omega⟩
    have ex3 : ∀ (op : List Int) (nx fu : Int) (st : Sto), Gv i v zs prW pr op nx g fu st → GE i v zs prW pr op nx g fu 3 st (m_L_c_e 8 [.ref i, .ref v, .int 3] st) := fun op nx fu st h => t_c_e 3 (by omega) 8 (by omega) op nx fu st h
    have fin : ∀ (e : Ex), fineE 3 e → fineE (dep + 1) e := fun e he => fineE_mono 3 (dep + 1) e (by omega) he
    have hd : ∀ (w : W) (st' : Sto), b_L_c_s (R_L_c_body f 0) (R_L_c_body f 1) [some (.ref i), some (.ref v), some (.int ((dep + 1 : Nat) : Int)), none, none, none, none, none, none] st = .rt w st' → m_L_c_s (f + 1) [.ref i, .ref v, .int ((dep + 1 : Nat) : Int)] st = .ok w st' := fun w st' e => def_rt (n := 3) (k := 6) rfl e
    have hDn : (dep : Int) + 1 - 1 = (dep : Int) := by omega
    have hDD : ((dep + 1 : Nat) : Int) = (dep : Int) + 1 := by omega
    rw [hDD] at hd ⊢
    have pre : ∀ (rest : MS) (o : SO), rest [some (.ref i), some (.ref v), some (.int ((dep : Int) + 1)), some (.int p), none, none, none, none, none] s2 = o → mSeq (mDPut (mVar 1) (mC (W.str "fuel")) (mOp mSub (mDGet (mVar 1) (mC (W.str "fuel"))) (mC (W.int 1)))) (mSeq (mAsg (mCall 2 m_L_draw (mCons (mVar 0) (mCons (mC (W.int 12)) mNil))) (mGN 3)) rest) [some (.ref i), some (.ref v), some (.int ((dep : Int) + 1)), none, none, none, none, none, none] st = o := fun rest o ho => by
      refine seq_nx (s1 := [some (.ref i), some (.ref v), some (.int ((dep : Int) + 1)), none, none, none, none, none, none]) (st1 := s1) (by rw [hs1]; simp [hob, ep5, sizeLine_eq]) ?_
      exact seq_nx (s1 := [some (.ref i), some (.ref v), some (.int ((dep : Int) + 1)), some (.int p), none, none, none, none, none]) (st1 := s2) (by simp [e2]) ho
    by_cases c1 : p < 3 ∧ 2 < dep
    · obtain ⟨c1, c1d⟩ := c1
      have hda : (3 : Int) < (dep : Int) + 1 := by omega
      obtain ⟨f, rfl⟩ : ∃ g, f = g + 1 := ⟨f - 1, by omega⟩
      obtain ⟨e, fu3, s3, e3, r3, f3, l3, h3, o3⟩ := (ex3 op nx (fu - 1) s2 h2).ex
      have sub := fun op nx fu st => ih f (by omega) (by omega) op nx fu st
      obtain ⟨ba, opa, nxa, fua, s4, e4, n4, r4, f4, l4, h4, I4, o4⟩ := (t_c_body (C := C) (D := dep) (dep := dep + 1) (f := f) 3 (by omega) sub h3 (Iq fu3 (by omega))).ex
      have e4' : R_L_c_body (f + 1) 0 [.ref i, .ref v, .int (dep : Int), .int 3] s3 = .ok (.tup (encSs ba)) s4 := e4
      by_cases c0 : p = 0
      · refine ⟨.whl e ba, op, nxa, fua, s4, hd _ _ ?_, by simp only [rS, r3, r4, if_true], List.prefix_refl _, ⟨by simp only [fineS]; exact ⟨fin e f3, f4.1⟩, by simp only [lnS]; exact f4.2⟩, by omega, h4, I4, tr (tr o2 o3) o4⟩
        unfold b_L_c_s
        refine pre _ _ (seq_rt (ifS_true (st1 := s2) (by simp [c1, hda]) ?_))
        refine seq_nx (s1 := [some (.ref i), some (.ref v), some (.int ((dep : Int) + 1)), some (.int p), some (encE e), none, none, none, none]) (st1 := s3) (by simp [e3]) ?_
        refine seq_nx (s1 := [some (.ref i), some (.ref v), some (.int ((dep : Int) + 1)), some (.int p), some (encE e), some (.tup (encSs ba)), none, none, none]) (st1 := s4) (by simp [hDn, e4']) ?_
        exact seq_rt (ifS_true (st1 := s4) (by simp [c0]) (by simp [encS, sizeLine_eq]))
      · by_cases c2 : p = 2
        · obtain ⟨bb, opb, nxb, fub, s5, e5, n5, r5, f5, l5, h5, I5, o5⟩ := (t_c_body (C := C) (D := dep) (dep := dep + 1) (f := f) 2 (by omega) sub h4 I4).ex
          have e5' : R_L_c_body (f + 1) 0 [.ref i, .ref v, .int (dep : Int), .int 2] s4 = .ok (.tup (encSs bb)) s5 := e5
          refine ⟨.ite e ba bb, op, nxb, fub, s5, hd _ _ ?_, by simp only [rS, r3, r4, r5, if_true], List.prefix_refl _, ⟨by simp only [fineS]; exact ⟨fin e f3, f4.1, f5.1⟩, by simp only [lnS, f4.2, f5.2]; rfl⟩, by omega, h5, I5, tr (tr (tr o2 o3) o4) o5⟩
          unfold b_L_c_s
          refine pre _ _ (seq_rt (ifS_true (st1 := s2) (by simp [c1, hda]) ?_))
          refine seq_nx (s1 := [some (.ref i), some (.ref v), some (.int ((dep : Int) + 1)), some (.int p), some (encE e), none, none, none, none]) (st1 := s3) (by simp [e3]) ?_
          refine seq_nx (s1 := [some (.ref i), some (.ref v), some (.int ((dep : Int) + 1)), some (.int p), some (encE e), some (.tup (encSs ba)), none, none, none]) (st1 := s4) (by simp [hDn, e4']) ?_
          refine seq_nx (ifS_false (st1 := s4) (by simp [c0]) rfl) ?_
          refine seq_nx (s1 := [some (.ref i), some (.ref v), some (.int ((dep : Int) + 1)), some (.int p), some (encE e), some (.tup (encSs ba)), some (.tup []), none, none]) (st1 := s4) (by simp [sizeLine_eq]) ?_
          refine seq_nx (s1 := [some (.ref i), some (.ref v), some (.int ((dep : Int) + 1)), some (.int p), some (encE e), some (.tup (encSs ba)), some (.tup (encSs bb)), none, none]) (st1 := s5) (ifS_true (st1 := s4) (by simp [c2]) (by simp [hDn, e5'])) ?_
          simp [encS, sizeLine_eq]
        · refine ⟨.ite e ba .nil, op, nxa, fua, s4, hd _ _ ?_, by simp only [rS, rB, r3, r4, if_true], List.prefix_refl _, ⟨by simp only [fineS, fineSs]; exact ⟨fin e f3, f4.1, trivial⟩, by simp only [lnS, lnB, f4.2]; rfl⟩, by omega, h4, I4, tr (tr o2 o3) o4⟩
          unfold b_L_c_s
          refine pre _ _ (seq_rt (ifS_true (st1 := s2) (by simp [c1, hda]) ?_))
          refine seq_nx (s1 := [some (.ref i), some (.ref v), some (.int ((dep : Int) + 1)), some (.int p), some (encE e), none, none, none, none]) (st1 := s3) (by simp [e3]) ?_
          refine seq_nx (s1 := [some (.ref i), some (.ref v), some (.int ((dep : Int) + 1)), some (.int p), some (encE e), some (.tup (encSs ba)), none, none, none]) (st1 := s4) (by simp [hDn, e4']) ?_
          refine seq_nx (ifS_false (st1 := s4) (by simp [c0]) rfl) ?_
          refine seq_nx (s1 := [some (.ref i), some (.ref v), some (.int ((dep : Int) + 1)), some (.int p), some (encE e), some (.tup (encSs ba)), some (.tup []), none, none]) (st1 := s4) (by simp [sizeLine_eq]) ?_
          refine seq_nx (ifS_false (st1 := s4) (by simp [c2]) rfl) ?_
          simp [encS, encSs, sizeLine_eq]
    have q1 : ∀ (x : MS) (rest : MS) (o : SO), rest [some (.ref i), some (.ref v), some (.int ((dep : Int) + 1)), some (.int p), none, none, none, none, none] s2 = o → mSeq (mIfS (mTAnd (mTest (mOp mLt (mVar 3) (mC (W.int 3)))) (mTest (mOp mGt (mVar 2) (mC (W.int 3))))) x mSkip) rest [some (.ref i), some (.ref v), some (.int ((dep : Int) + 1)), some (.int p), none, none, none, none, none] s2 = o := fun x rest o ho => by
      refine seq_nx (ifS_false (st1 := s2) ?_ rfl) ho
      by_cases a : p < 3
      · have : ¬ 2 < dep := fun z => c1 ⟨a, z⟩
        have : ¬ (3 : Int) < (dep : Int) + 1 := by omega
        simp [a, this]
      · simp [a]
    by_cases c3 : p = 3 ∧ 0 < zs.length
    · obtain ⟨c3, c3z⟩ := c3
      obtain ⟨t, s3, e3, d3, t0, t1⟩ := t_draw s2 i (zs.length : Int) h2.bg (by omega) (by omega)
      have h3 := h2.draw d3
      obtain ⟨a, fu4, s4, e4, r4, f4, l4, h4, o4⟩ := (ex3 op nx (fu - 1) s3 h3).ex
      obtain ⟨b, fu5, s5, e5, r5, f5, l5, h5, o5⟩ := (ex3 op nx fu4 s4 h4).ex
      refine ⟨.put t a b, op, nx, fu5, s5, hd _ _ ?_, by simp only [rS]; rw [if_pos ⟨t1, r4, r5⟩], List.prefix_refl _, ⟨by simp only [fineS]; exact ⟨t0, fin a f4, fin b f5⟩, rfl⟩, by omega, h5, Iq fu5 (by omega), tr (tr (tr o2 (dd d3.o)) o4) o5⟩
      unfold b_L_c_s
      refine pre _ _ (q1 _ _ _ (seq_rt (ifS_true (st1 := s2) (by simp [c3, hob2, sizeLine_eq, zl]; omega) ?_)))
      simp [hob2, sizeLine_eq, zl, e3, e4, e5, encS]
    have q3 : ∀ (x : MS) (rest : MS) (o : SO), rest [some (.ref i), some (.ref v), some (.int ((dep : Int) + 1)), some (.int p), none, none, none, none, none] s2 = o → mSeq (mIfS (mTAnd (mTest (mOp mEq (mVar 3) (mC (W.int 3)))) (mTest (mOp mGt (mCB mLen (mCons (mDGet (mVar 1) (mC (W.str "sizes"))) mNil)) (mC (W.int 0))))) x mSkip) rest [some (.ref i), some (.ref v), some (.int ((dep : Int) + 1)), some (.int p), none, none, none, none, none] s2 = o := fun x rest o ho => by
      refine seq_nx (ifS_false (st1 := s2) ?_ rfl) ho
      by_cases a : p = 3
      · have : ¬ 0 < zs.length := fun z => c3 ⟨a, z⟩
        have hz0 : zs.length = 0 := by omega
        simp [a, hob2, sizeLine_eq, zl, hz0]
      · simp [a]
    by_cases c4 : p = 4 ∧ 0 < pr.length
    · obtain ⟨c4, c4p⟩ := c4
      obtain ⟨t, s3, e3, d3, t0, t1⟩ := t_draw s2 i (pr.length : Int) h2.bg (by omega) (by omega)
      have h3 := h2.draw d3
      obtain ⟨a, fu4, s4, e4, r4, ck4, n4, f4, l4, h4, o4⟩ := (t_c_args (f := 7) (dep := 3) (fun op nx fu st h => t_c_e 3 (by omega) 7 (by omega) op nx fu st h) h3 t0 t1).ex
      have e4' : m_L_c_args 8 [.ref i, .ref v, .int t, .int 3] s3 = .ok (.tup (encEs a)) s4 := e4
      refine ⟨.run t a, op, nx, fu4, s4, hd _ _ ?_, by simp only [rS]; rw [if_pos ⟨ck4, r4⟩], List.prefix_refl _, ⟨by simp only [fineS]; exact ⟨t0, n4, fineEs_mono fin a f4⟩, rfl⟩, by omega, h4, Iq fu4 (by omega), tr (tr o2 (dd d3.o)) o4⟩
      unfold b_L_c_s
      refine pre _ _ (q1 _ _ _ (q3 _ _ _ (seq_rt (ifS_true (st1 := s2) (by simp [-mLen, c4, hob2, pl2]; omega) ?_))))
      refine seq_nx (s1 := [some (.ref i), some (.ref v), some (.int ((dep : Int) + 1)), some (.int p), none, none, none, some (.int t), none]) (st1 := s3) (by simp [-mLen, hob2, pl2, e3]) ?_
      simp [e4', encS, sizeLine_eq]
    have q4 : ∀ (x : MS) (rest : MS) (o : SO), rest [some (.ref i), some (.ref v), some (.int ((dep : Int) + 1)), some (.int p), none, none, none, none, none] s2 = o → mSeq (mIfS (mTAnd (mTest (mOp mEq (mVar 3) (mC (W.int 4)))) (mTest (mOp mGt (mCB mLen (mCons (mDGet (mVar 1) (mC (W.str "params"))) mNil)) (mC (W.int 0))))) x mSkip) rest [some (.ref i), some (.ref v), some (.int ((dep : Int) + 1)), some (.int p), none, none, none, none, none] s2 = o := fun x rest o ho => by
      refine seq_nx (ifS_false (st1 := s2) ?_ rfl) ho
      by_cases a : p = 4
      · have : ¬ 0 < pr.length := fun z => c4 ⟨a, z⟩
        have hz0 : pr.length = 0 := by omega
        rw [hz0] at pl2
        simp [-mLen, a, hob2, pl2]
      · simp [a]
    by_cases c5 : p = 5 ∧ g = true
    · obtain ⟨c5, c5g⟩ := c5
      obtain ⟨a, fu4, s4, e4, r4, f4, l4, h4, o4⟩ := (ex3 op nx (fu - 1) s2 h2).ex
      refine ⟨.give a, op, nx, fu4, s4, hd _ _ ?_, by simp only [rS]; rw [if_pos ⟨c5g, r4⟩], List.prefix_refl _, ⟨by simp only [fineS]; exact fin a f4, rfl⟩, by omega, h4, Iq fu4 (by omega), tr o2 o4⟩
      unfold b_L_c_s
      refine pre _ _ (q1 _ _ _ (q3 _ _ _ (q4 _ _ _ (seq_rt (ifS_true (st1 := s2) (by simp [c5, hob2, c5g]) ?_)))))
      simp [e4, encS, sizeLine_eq]
    have q5 : ∀ (x : MS) (rest : MS) (o : SO), rest [some (.ref i), some (.ref v), some (.int ((dep : Int) + 1)), some (.int p), none, none, none, none, none] s2 = o → mSeq (mIfS (mTAnd (mTest (mOp mEq (mVar 3) (mC (W.int 5)))) (mTru (mDGet (mVar 1) (mC (W.str "give"))))) x mSkip) rest [some (.ref i), some (.ref v), some (.int ((dep : Int) + 1)), some (.int p), none, none, none, none, none] s2 = o := fun x rest o ho => by
      refine seq_nx (ifS_false (st1 := s2) ?_ rfl) ho
      by_cases a : p = 5
      · have : ¬ g = true := fun z => c5 ⟨a, z⟩
        simp [a, hob2, this]
      · simp [a]
    by_cases c8 : p < 8 ∧ 0 < op.length
    · obtain ⟨c8, c8o⟩ := c8
      obtain ⟨w, s3, e3, d3, hw⟩ := t_one h2.bg (op.map W.int) (by simpa using c8o) (by simp; omega)
      have h3 := h2.draw d3
      obtain ⟨t, ht, rfl⟩ := List.mem_map.mp hw
      obtain ⟨a, fu4, s4, e4, r4, f4, l4, h4, o4⟩ := (ex3 op nx (fu - 1) s3 h3).ex
      refine ⟨.lt false t a, op, nx, fu4, s4, hd _ _ ?_, by simp only [rS]; rw [if_pos ⟨r4, ht⟩], List.prefix_refl _, ⟨by simp only [fineS]; exact ⟨h.ov t ht, fin a f4⟩, rfl⟩, by omega, h4, Iq fu4 (by omega), tr (tr o2 (dd d3.o)) o4⟩
      unfold b_L_c_s
      refine pre _ _ (q1 _ _ _ (q3 _ _ _ (q4 _ _ _ (q5 _ _ _ (seq_rt (ifS_true (st1 := s2) (by simp [c8, hob2, sizeLine_eq, ol]; omega) ?_))))))
      simp [hob2, e3, e4, encS, sizeLine_eq]
    have q8 : ∀ (x : MS) (rest : MS) (o : SO), rest [some (.ref i), some (.ref v), some (.int ((dep : Int) + 1)), some (.int p), none, none, none, none, none] s2 = o → mSeq (mIfS (mTAnd (mTest (mOp mLt (mVar 3) (mC (W.int 8)))) (mTest (mOp mGt (mCB mLen (mCons (mDGet (mVar 1) (mC (W.str "open"))) mNil)) (mC (W.int 0))))) x mSkip) rest [some (.ref i), some (.ref v), some (.int ((dep : Int) + 1)), some (.int p), none, none, none, none, none] s2 = o := fun x rest o ho => by
      refine seq_nx (ifS_false (st1 := s2) ?_ rfl) ho
      by_cases a : p < 8
      · have : ¬ 0 < op.length := fun z => c8 ⟨a, z⟩
        have hz0 : op.length = 0 := by omega
        simp [a, hob2, sizeLine_eq, ol, hz0]
      · simp [a]
    obtain ⟨a, fu4, s4, e4, r4, f4, l4, h4, o4⟩ := (ex3 op nx (fu - 1) s2 h2).ex
    by_cases c10 : p < 10
    · have hob4 := h4.ob
      have hl4 := (List.getElem?_eq_some_iff.mp hob4).1
      have h5 := h4.put (op' := op ++ [nx]) (nx' := nx) (fu' := fu4) (by simp; omega) (fun x hx => by
        rcases List.mem_append.mp hx with z | z
        · exact h.ov x z
        · simp only [List.mem_singleton] at z; omega)
      have h6 := h5.put (op' := op ++ [nx]) (nx' := nx + 1) (fu' := fu4) h5.o8 h5.ov
      have hob5 := h5.ob
      have hob6 := h6.ob
      have om : (op ++ [nx]).map W.int = op.map W.int ++ [W.int nx] := by simp
      refine ⟨.lt true nx a, op ++ [nx], nx + 1, fu4, _, hd _ _ ?_, by simp only [rS]; rw [if_pos ⟨r4, trivial⟩], List.prefix_append _ _, ⟨by simp only [fineS]; exact ⟨by omega, fin a f4⟩, rfl⟩, by omega, h6, ⟨by simp; omega, by omega, by omega⟩, tr (tr (tr o2 o4) (Only.set (by simp))) (Only.set (by simp))⟩
      unfold b_L_c_s
      refine pre _ _ (q1 _ _ _ (q3 _ _ _ (q4 _ _ _ (q5 _ _ _ (q8 _ _ _ (seq_rt (ifS_true (st1 := s2) (by simp [c10]) ?_)))))))
      refine seq_nx (s1 := [some (.ref i), some (.ref v), some (.int ((dep : Int) + 1)), some (.int p), none, none, none, none, some (encE a)]) (st1 := s4) (by simp [e4]) ?_
      refine seq_nx (s1 := [some (.ref i), some (.ref v), some (.int ((dep : Int) + 1)), some (.int p), none, none, none, none, some (encE a)]) (st1 := s4.set v (.dK (evL zs prW (op ++ [nx]) nx g fu4))) (by
        rw [← ep2 (op := op), om]
        simp [hob4, sizeLine_eq, show op.length + 1 ≤ 16777216 by omega]) ?_
      refine seq_nx (s1 := [some (.ref i), some (.ref v), some (.int ((dep : Int) + 1)), some (.int p), none, none, none, none, some (encE a)]) (st1 := (s4.set v (.dK (evL zs prW (op ++ [nx]) nx g fu4))).set v (.dK (evL zs prW (op ++ [nx]) (nx + 1) g fu4))) (by
        generalize s4.set v (.dK (evL zs prW (op ++ [nx]) nx g fu4)) = s5 at *
        simp [hob5, ep3, sizeLine_eq]) ?_
      generalize (s4.set v (.dK (evL zs prW (op ++ [nx]) nx g fu4))).set v (.dK (evL zs prW (op ++ [nx]) (nx + 1) g fu4)) = s6 at *
      simp [hob6, encS, sizeLine_eq]
    · refine ⟨.tell a, op, nx, fu4, s4, hd _ _ ?_, by simp only [rS]; rw [if_pos r4], List.prefix_refl _, ⟨by simp only [fineS]; exact fin a f4, rfl⟩, by omega, h4, Iq fu4 (by omega), tr o2 o4⟩
      unfold b_L_c_s
      refine pre _ _ (q1 _ _ _ (q3 _ _ _ (q4 _ _ _ (q5 _ _ _ (q8 _ _ _ (seq_nx (ifS_false (st1 := s2) (by simp [c10]) rfl) ?_))))))
      simp [e4, encS, sizeLine_eq]
end
end Gn

namespace Gn
open PySem L2 Mi
/-! ### drawn functions and trees -/
theorem fineSs_mono {k m : Nat} (h : ∀ e : Sm', fineS k e → fineS m e) : ∀ a : Sms, fineSs k a → fineSs m a
  | .nil, _ => by rw [fineSs]; trivial
  | .cons e r, hf => by rw [fineSs] at hf ⊢; exact ⟨h e hf.1, fineSs_mono h r hf.2⟩
theorem fineS_mono : ∀ (k m : Nat) (e : Sm'), k ≤ m → fineS k e → fineS m e := by
  intro k
  induction k with
  | zero => intro m e _ h; cases e <;> simp [fineS] at h
  | succ k ih =>
    intro m e hm h
    obtain ⟨m, rfl⟩ : ∃ n, m = n + 1 := ⟨m - 1, by omega⟩
    have ih' := fun e => ih m e (by omega)
    have ie := fun e => fineE_mono k m e (by omega)
    cases e <;> simp only [fineS] at h ⊢
    · exact ⟨h.1, ie _ h.2⟩
    · exact ⟨h.1, ie _ h.2.1, ie _ h.2.2⟩
    · exact ⟨ie _ h.1, fineSs_mono ih' _ h.2.1, fineSs_mono ih' _ h.2.2⟩
    · exact ⟨ie _ h.1, fineSs_mono ih' _ h.2⟩
    · exact ie _ h
    · exact ie _ h
    · exact ⟨h.1, h.2.1, fineEs_mono ie _ h.2.2⟩
/-- a drawn function -/
structure FnW (sz : Nat) (pr : List Int) (g : Bool) (most : Int) (w : W) : Prop where
  ex : ∃ (a b : Int) (ss : Sms) (op : List Int), w = .tup [.int a, .int b, .tup (encSs ss)] ∧ (fineSs 7 ss ∧ lnB ss = true) ∧ rB sz pr g ss (rngI a) a = some (op, b) ∧ 0 ≤ a ∧ a ≤ most ∧ a ≤ b ∧ b ≤ 100 ∧ (encSs ss).length ≤ 20
theorem FnW.rule {sz : Nat} {pr : List Int} {g : Bool} {most : Int} {w : W} (h : FnW sz pr g most w) : RuleF sz pr g w := by
  obtain ⟨a, b, ss, op, e, hf, hr, -⟩ := h.ex
  exact ⟨a, b, ss, op, e, fineSs_mono (fun s => fineS_mono 7 12 s (by omega)) ss hf.1, hr⟩
theorem FnW.shape {sz : Nat} {pr : List Int} {g : Bool} {most : Int} {w : W} (h : FnW sz pr g most w) : shapeF most w = true := by
  obtain ⟨a, b, ss, op, rfl, hf, hr, h0, h1, h2, h3, -⟩ := h.ex
  have hb : bodyW (sh 12 true) (.tup (encSs ss)) = true := all_encSs (ex_shS 12) ss (fineSs_mono (fun s => fineS_mono 7 12 s (by omega)) ss hf.1)
  simp [shapeF, inRow, isNumW, h0, h1, hb]
  omega
theorem FnW.mono {sz : Nat} {pr : List Int} {g : Bool} {m m' : Int} {w : W} (h : FnW sz pr g m w) (hm : m ≤ m') : FnW sz pr g m' w := by
  obtain ⟨a, b, ss, op, e, hf, hr, h0, h1, h2⟩ := h.ex
  exact ⟨a, b, ss, op, e, hf, hr, h0, by omega, h2⟩
theorem FnW.par {sz : Nat} {pr : List Int} {g : Bool} {most : Int} {w : W} (h : FnW sz pr g most w) : 0 ≤ par w ∧ par w ≤ most := by
  obtain ⟨a, b, ss, op, rfl, hf, hr, h0, h1, -⟩ := h.ex
  exact ⟨h0, h1⟩
/-- a drawn tree -/
structure TreeW (w : W) : Prop where
  ex : ∃ (zs fs : List W) (mn : W), w = .tup [.str "checked", .tup zs, .tup fs, mn] ∧ zs.length ≤ 2 ∧ (∀ z ∈ zs, ∃ k : Int, z = .int k ∧ 1 ≤ k ∧ k ≤ 64) ∧ fs.length ≤ 3 ∧ (∀ j f, fs[j]? = some f → FnW zs.length ((fs.take j).map par) true 4 f) ∧ FnW zs.length (fs.map par) false 0 mn
theorem TreeW.checked {w : W} (h : TreeW w) : CheckedW w := by
  obtain ⟨zs, fs, mn, rfl, hz, hz2, hf, hF, hM⟩ := h.ex
  refine ⟨zs, fs, mn, rfl, ?_, fun j f hj => (hF j f hj).rule, hM.rule⟩
  have a1 : zs.all (inRow 1 64) = true := List.all_eq_true.mpr fun z hzz => by
    obtain ⟨k, rfl, h0, h1⟩ := hz2 z hzz
    simp [inRow, h0, h1]
  have a2 : fs.all (shapeF 4) = true := List.all_eq_true.mpr fun f hff => by
    obtain ⟨j, hj⟩ := List.getElem?_of_mem hff
    exact (hF j f hj).shape
  simp only [shpW, a1, a2, hM.shape, Bool.and_self, Bool.and_true, decide_true, Bool.true_and, Bool.and_eq_true, decide_eq_true_eq]
  omega
theorem D3.o' {i : Nat} {st st' : Sto} (h : D3 i st st') : Only [i] st st' := h.o
theorem t_c_function {st : Sto} {i : Nat} {zs : List W} {prW : W} {pr : List Int} {a F : Nat} {g : Bool} (hb : Bag3 st i) (hz : zs.length ≤ 10) (hpw : asL prW st = some (pr.map W.int)) (hpn : prW ≠ .ref i) (hp8 : pr.length ≤ 10) (hpv : ∀ x ∈ pr, 0 ≤ x ∧ x ≤ 4) (ha : a ≤ 4) (hF : F ≤ 50) :
    ∃ (w : W) (st' : Sto), m_L_c_function [.ref i, .tup zs, prW, .int (a : Int), .bl g, .int (F : Int)] st = .ok w st' ∧ D3 i st st' ∧ FnW zs.length pr g a w ∧ par w = (a : Int) := by
  obtain ⟨v, hv⟩ : ∃ v, v = st.length := ⟨_, rfl⟩
  have hir : i ≠ v := by
    obtain ⟨x, y, z, e⟩ := hb
    have := (List.getElem?_eq_some_iff.mp e).1
    omega
  have hpr : prW ≠ .ref v := by
    intro e
    rw [e] at hpw
    simp only [asL] at hpw
    split at hpw
    · rename_i ws hw
      have := (List.getElem?_eq_some_iff.mp hw).1
      omega
    · cases hpw
  have hrl : (rngI (a : Int)).length = a := by rw [rngI_len]; simp
  have hrw : rngW 0 a = (rngI (a : Int)).map W.int := by have := rngI_w (a : Int); simpa using this
  obtain ⟨s1, hs1⟩ : ∃ s1, s1 = st ++ [.dK (evL zs prW (rngI a) a g F)] := ⟨_, rfl⟩
  have o1 : Only [] st s1 := by rw [hs1]; exact Only.app _ _ _
  have h1 : Gv i v zs prW pr (rngI a) a g F s1 := by
    obtain ⟨x, y, z, e⟩ := hb
    refine ⟨⟨x, y, z, o1.rd e (by simp)⟩, by rw [hs1, hv]; simp, asL_only hpw o1 (by simp), ⟨hpr, hpn⟩, hir, hz, hp8, hpv, by omega, fun x hx => ?_⟩
    obtain ⟨k, -, rfl⟩ := List.mem_map.mp hx
    omega
  have I1 : Iv 54 (rngI a) a F := ⟨by omega, by omega, by omega⟩
  obtain ⟨ss, op1, nx, fu, s2, e2, n2, r2, f2, l2, h2, I2, o2⟩ := (t_c_body (C := 54) (D := 6) (dep := 7) (f := 13) 7 (by omega) (fun op nx fu st h hI hf => t_c_s (by omega) 6 13 (by omega) (by omega) op nx fu st h hI hf) h1 I1).ex
  have e2' : m_L_c_body 14 [.ref i, .ref v, .int 6, .int 7] s1 = .ok (.tup (encSs ss)) s2 := e2
  have hob2 := h2.ob
  have hge : (a : Int) ≤ nx := by have := I2.a; omega
  refine ⟨.tup [.int a, .int nx, .tup (encSs ss)], s2, ?_, ⟨⟨by have := o1.1; have := o2.1; omega, fun j hj hn => ?_⟩, h2.bg⟩, ⟨⟨a, nx, ss, op1, rfl, f2, r2, by omega, by omega, hge, by have := I2.b; omega, n2⟩⟩, rfl⟩
  · refine def_rt (n := 6) (k := 2) rfl ?_
    show b_L_c_function [some (.ref i), some (.tup zs), some prW, some (.int (a : Int)), some (.bl g), some (.int (F : Int)), none, none] st = _
    unfold b_L_c_function
    have ha0 : (0 : Int) ≤ (a : Int) ∧ (a : Int) ≤ 1000000 := by omega
    refine seq_nx (s1 := [some (.ref i), some (.tup zs), some prW, some (.int (a : Int)), some (.bl g), some (.int (F : Int)), some (.ref v), none]) (st1 := s1) (by
      rw [hs1, hv, evL, ← hrw]
      simp [mListRg, ha0, mergeW, putKW]) ?_
    refine seq_nx (s1 := [some (.ref i), some (.tup zs), some prW, some (.int (a : Int)), some (.bl g), some (.int (F : Int)), some (.ref v), some (.tup (encSs ss))]) (st1 := s2) (by simp [e2']) ?_
    simp [hob2, sizeLine_eq]
  · have a1 := o1.2 j hj (by simp)
    have a2 := o2.2 j (by have := o1.1; omega) (by simp only [List.mem_cons, List.not_mem_nil, or_false, not_or] at hn ⊢; exact ⟨hn, by omega⟩)
    rw [a2, a1]
end Gn

namespace Gn
open PySem L2 Mi
theorem take_snoc {α : Type} {xs : List α} {x : α} (j : Nat) (hj : j ≤ xs.length) : (xs ++ [x]).take j = xs.take j := List.take_append_of_le_length hj
theorem t_checked {st : Sto} {i : Nat} (hb : Bag3 st i) : ∃ (w : W) (st' : Sto), m_L_checked [.ref i, .int 50] st = .ok w st' ∧ D3 i st st' ∧ TreeW w := by
  obtain ⟨q, s1, e1, d1, q0, q1⟩ := t_draw st i 3 hb (by omega) (by omega)
  obtain ⟨q, rfl⟩ : ∃ k : Nat, q = (k : Int) := ⟨q.toNat, by omega⟩
  have sizes : ∀ (ws : List W) (st : Sto), Bag3 st i → ∃ (zs : List W) (st' : Sto), lcR (NT.m (.nm 3)) mYes e0_L_checked [some (.ref i), some (.int 50), none, none, none, none, none] ws st = .ok zs st' ∧ D3 i st st' ∧ zs.length = ws.length ∧ (∀ z ∈ zs, ∃ k : Int, z = .int k ∧ 1 ≤ k ∧ k ≤ 64) := by
    intro ws
    induction ws with
    | nil => intro st hb; exact ⟨[], st, rfl, D3.refl hb, rfl, by simp⟩
    | cons y ws ih =>
      intro st hb
      obtain ⟨r, s2, e2, d2, r0, r1⟩ := t_draw st i 9 hb (by omega) (by omega)
      obtain ⟨w, s3, e3, d3, hw⟩ := t_one d2.b [.int 1, .int 2, .int 3, .int 64, .int (1 + r)] (by simp) (by simp)
      obtain ⟨zs, s4, e4, d4, n4, h4⟩ := ih s3 d3.b
      have hk : ∃ k : Int, w = .int k ∧ 1 ≤ k ∧ k ≤ 64 := by
        simp only [List.mem_cons, List.not_mem_nil, or_false] at hw
        rcases hw with rfl | rfl | rfl | rfl | rfl
        · exact ⟨_, rfl, by omega, by omega⟩
        · exact ⟨_, rfl, by omega, by omega⟩
        · exact ⟨_, rfl, by omega, by omega⟩
        · exact ⟨_, rfl, by omega, by omega⟩
        · exact ⟨_, rfl, by omega, by omega⟩
      refine ⟨w :: zs, s4, ?_, (d2.trans d3).trans d4, by simp [n4], fun z hz => ?_⟩
      · have hm : NT.m (.nm 3) y [some (.ref i), some (.int 50), none, none, none, none, none] st = some ([some (.ref i), some (.int 50), none, some y, none, none, none], st) := rfl
        have ee : e0_L_checked [some (.ref i), some (.int 50), none, some y, none, none, none] st = .ok w s3 := by simp [e0_L_checked, e2, e3, sizeLine_eq]
        simp only [lcR, hm, mYes, ee, e4]
      · rcases List.mem_cons.mp hz with rfl | h
        · exact hk
        · exact h4 z h
  obtain ⟨zs, s2, e2, d2, n2, hzs⟩ := sizes (rngW 0 q) s1 d1.b
  have hzl : zs.length ≤ 2 := by rw [n2]; simp; omega
  have d02 := d1.trans d2
  obtain ⟨P, hP⟩ : ∃ P, P = s2.length := ⟨_, rfl⟩
  have hiP : i < P := by
    obtain ⟨x, y, z, e⟩ := d2.b
    have := (List.getElem?_eq_some_iff.mp e).1
    omega
  obtain ⟨s3, hs3⟩ : ∃ s3, s3 = s2 ++ [.lst [], .lst []] := ⟨_, rfl⟩
  have o3 : Only [] s2 s3 := by rw [hs3]; exact Only.app _ _ _
  have b3 : Bag3 s3 i := by
    obtain ⟨x, y, z, e⟩ := d2.b
    exact ⟨x, y, z, o3.rd e (by simp)⟩
  obtain ⟨w4, s4, e4, d4, hw4⟩ := t_one b3 [.int 0, .int 1, .int 2, .int 3] (by simp) (by simp)
  obtain ⟨k4, rfl, hk4⟩ : ∃ k : Nat, w4 = .int (k : Int) ∧ k ≤ 3 := by
    simp only [List.mem_cons, List.not_mem_nil, or_false] at hw4
    rcases hw4 with rfl | rfl | rfl | rfl
    · exact ⟨0, rfl, by omega⟩
    · exact ⟨1, rfl, by omega⟩
    · exact ⟨2, rfl, by omega⟩
    · exact ⟨3, rfl, by omega⟩
  have hp4 : s4[P]? = some (.lst []) := d4.rd (by rw [hs3, hP]; simp) (by omega)
  have hq4 : s4[P + 1]? = some (.lst []) := d4.rd (by rw [hs3, hP]; simp) (by omega)
  have loop : ∀ (ws : List W) (st : Sto) (fs : List W) (x3 x6 : Option W), Bag3 st i → st[P]? = some (.lst ((fs.map par).map W.int)) → st[P + 1]? = some (.lst fs) → fs.length + ws.length ≤ 3 → (∀ j f, fs[j]? = some f → FnW zs.length ((fs.take j).map par) true 4 f) →
      ∃ (fs' : List W) (st' : Sto) (y3 y6 : Option W), runL (mGN 3) l1_L_checked ws [some (.ref i), some (.int 50), some (.tup zs), x3, some (.ref P), some (.ref (P + 1)), x6] st = .nx [some (.ref i), some (.int 50), some (.tup zs), y3, some (.ref P), some (.ref (P + 1)), y6] st' ∧
        Bag3 st' i ∧ Only [i, P, P + 1] st st' ∧ st'[P]? = some (.lst ((fs'.map par).map W.int)) ∧ st'[P + 1]? = some (.lst fs') ∧ fs'.length ≤ 3 ∧ (∀ j f, fs'[j]? = some f → FnW zs.length ((fs'.take j).map par) true 4 f) := by
    intro ws
    induction ws with
    | nil => intro st fs x3 x6 hb hp hq hl hf; exact ⟨fs, st, x3, x6, rfl, hb, Only.refl _ _, hp, hq, by simpa using hl, hf⟩
    | cons w ws ih =>
      intro st fs x3 x6 hb hp hq hl hf
      simp only [List.length_cons] at hl
      obtain ⟨wc, t1, c1, g1, hwc⟩ := t_one hb [.int 0, .int 1, .int 2, .int 4] (by simp) (by simp)
      obtain ⟨a, rfl, ha⟩ : ∃ k : Nat, wc = .int (k : Int) ∧ k ≤ 4 := by
        simp only [List.mem_cons, List.not_mem_nil, or_false] at hwc
        rcases hwc with rfl | rfl | rfl | rfl
        · exact ⟨0, rfl, by omega⟩
        · exact ⟨1, rfl, by omega⟩
        · exact ⟨2, rfl, by omega⟩
        · exact ⟨4, rfl, by omega⟩
      have hp1 := g1.rd hp (by omega)
      have hq1 := g1.rd hq (by omega)
      have hpv : ∀ x ∈ fs.map par, 0 ≤ x ∧ x ≤ 4 := fun x hx => by
        obtain ⟨f, hff, rfl⟩ := List.mem_map.mp hx
        obtain ⟨j, hj⟩ := List.getElem?_of_mem hff
        exact (hf j f hj).par
      obtain ⟨f, t2, c2, g2, F2, hpar⟩ := t_c_function (zs := zs) (prW := .lst ((fs.map par).map W.int)) (pr := fs.map par) (a := a) (F := 25) (g := true) g1.b (by omega) rfl (by simp) (by simp; omega) hpv ha (by omega)
      have hp2 := g2.rd hp1 (by omega)
      have hq2 := g2.rd hq1 (by omega)
      have lp2 := (List.getElem?_eq_some_iff.mp hp2).1
      have lq2 := (List.getElem?_eq_some_iff.mp hq2).1
      obtain ⟨t3, ht3⟩ : ∃ t3, t3 = t2.set (P + 1) (.lst (fs ++ [f])) := ⟨_, rfl⟩
      have hp3 : t3[P]? = some (.lst ((fs.map par).map W.int)) := by rw [ht3, List.getElem?_set_ne (by omega)]; exact hp2
      obtain ⟨t4, ht4⟩ : ∃ t4, t4 = t3.set P (.lst (((fs ++ [f]).map par).map W.int)) := ⟨_, rfl⟩
      have hp4 : t4[P]? = some (.lst (((fs ++ [f]).map par).map W.int)) := by rw [ht4, List.getElem?_set_self (by rw [ht3]; simpa using lp2)]
      have hq4 : t4[P + 1]? = some (.lst (fs ++ [f])) := by rw [ht4, List.getElem?_set_ne (by omega), ht3, List.getElem?_set_self lq2]
      have o24 : Only [P, P + 1] t2 t4 := by
        rw [ht4]
        exact Only.trans (B := [P]) (by rw [ht3]; exact Only.set (by simp)) (Only.set (by simp)) (fun a ha _ => by simp at ha; simp [ha])
      have b4 : Bag3 t4 i := by
        obtain ⟨x, y, z, e⟩ := g2.b
        exact ⟨x, y, z, o24.rd e (by simp only [List.mem_cons, List.not_mem_nil, or_false]; omega)⟩
      have hf4 : ∀ j f', (fs ++ [f])[j]? = some f' → FnW zs.length (((fs ++ [f]).take j).map par) true 4 f' := fun j f' hj => by
        by_cases hjl : j < fs.length
        · rw [take_snoc j (by omega)]
          rw [List.getElem?_append_left hjl] at hj
          exact hf j f' hj
        · have hjl2 : j = fs.length := by
            have := (List.getElem?_eq_some_iff.mp hj).1
            simp at this
            omega
          subst hjl2
          rw [take_snoc _ (by omega), List.take_length]
          simp at hj
          subst hj
          exact F2.mono (by omega)
      obtain ⟨fs', st', y3, y6, e5, b5, o5, p5, q5, n5, h5⟩ := ih t4 (fs ++ [f]) (some w) (some (.int (a : Int))) b4 hp4 hq4 (by simp; omega) hf4
      refine ⟨fs', st', y3, y6, ?_, b5, ?_, p5, q5, n5, h5⟩
      · have c2' : m_L_c_function [.ref i, .tup zs, .lst ((fs.map par).map W.int), .int (a : Int), .bl true, .int 25] t1 = .ok f t2 := c2
        have hz3 : fs.length ≤ 16777216 := by omega
        have hbody : l1_L_checked [some (.ref i), some (.int 50), some (.tup zs), some w, some (.ref P), some (.ref (P + 1)), x6] st = .nx [some (.ref i), some (.int 50), some (.tup zs), some w, some (.ref P), some (.ref (P + 1)), some (.int (a : Int))] t4 := by
          unfold l1_L_checked
          refine seq_nx (s1 := [some (.ref i), some (.int 50), some (.tup zs), some w, some (.ref P), some (.ref (P + 1)), some (.int (a : Int))]) (st1 := t1) (by simp [c1, sizeLine_eq]) ?_
          refine seq_nx (s1 := [some (.ref i), some (.int 50), some (.tup zs), some w, some (.ref P), some (.ref (P + 1)), some (.int (a : Int))]) (st1 := t3) (by
            rw [ht3]
            simp only [List.map_map] at hp1 c2'
            simp [asL, hp1, hq1, c2', hq2, sizeLine_eq, hz3, show fs.length < 16777216 by omega]) ?_
          rw [ht4]
          simp only [List.map_map] at hp3
          simp [asL, hp3, hpar, sizeLine_eq, show fs.length < 16777216 by omega]
        have hg : (mGN 3) w [some (.ref i), some (.int 50), some (.tup zs), x3, some (.ref P), some (.ref (P + 1)), x6] st = some ([some (.ref i), some (.int 50), some (.tup zs), some w, some (.ref P), some (.ref (P + 1)), x6], st) := rfl
        simp only [runL, hg, hbody, e5]
      · have m1 : Only [i, P, P + 1] st t1 := g1.o.mono (fun a ha _ => by simp only [List.mem_singleton] at ha; simp [ha])
        have m2 : Only [i, P, P + 1] t1 t2 := g2.o.mono (fun a ha _ => by simp only [List.mem_singleton] at ha; simp [ha])
        have m4 : Only [i, P, P + 1] t2 t4 := o24.mono (fun a ha _ => by simp only [List.mem_cons, List.not_mem_nil, or_false] at ha ⊢; rcases ha with h | h <;> simp [h])
        exact ((m1.trans m2 (fun a ha _ => ha)).trans m4 (fun a ha _ => ha)).trans o5 (fun a ha _ => ha)
  obtain ⟨fs, s5, y3, y6, e5, b5, o5, p5, q5, n5, h5⟩ := loop (rngW 0 k4) s4 [] none none d4.b (by simpa using hp4) hq4 (by simpa using hk4) (by simp)
  have hpv : ∀ x ∈ fs.map par, 0 ≤ x ∧ x ≤ 4 := fun x hx => by
    obtain ⟨f, hff, rfl⟩ := List.mem_map.mp hx
    obtain ⟨j, hj⟩ := List.getElem?_of_mem hff
    exact (h5 j f hj).par
  obtain ⟨mn, s6, e6, d6, F6, -⟩ := t_c_function (zs := zs) (prW := .ref P) (pr := fs.map par) (a := 0) (F := 50) (g := false) b5 (by omega) (by simp only [asL, p5]) (by simp; omega) (by simp; omega) hpv (by omega) (by omega)
  have e6' : m_L_c_function [.ref i, .tup zs, .ref P, .int 0, .bl false, .int 50] s5 = .ok mn s6 := e6
  refine ⟨.tup [.str "checked", .tup zs, .tup fs, mn], s6, ?_, ⟨?_, d6.b⟩, ⟨⟨zs, fs, mn, rfl, hzl, hzs, n5, h5, F6⟩⟩⟩
  · refine def_rt (n := 2) (k := 5) rfl ?_
    show b_L_checked [some (.ref i), some (.int 50), none, none, none, none, none] st = _
    unfold b_L_checked
    have hml := mLc_lcR (it := mIRng1 (mCons (mCall 2 m_L_draw (mCons (mVar 0) (mCons (mC (W.int 3)) mNil))) mNil)) (n := .nm 3) (t := mYes) (e := e0_L_checked) (vs := [3]) (s := [some (.ref i), some (.int 50), none, none, none, none, none]) (st := st) (st1 := s1) (ws := rngW 0 q) (rng1_nat (by simp [e1]) (by omega)) (by simp; omega) e2
    refine seq_nx (s1 := [some (.ref i), some (.int 50), some (.tup zs), none, none, none, none]) (st1 := s2) (by simp [-mLc, hml, asL, sizeLine_eq, show zs.length ≤ 16777216 by omega]) ?_
    refine seq_nx (s1 := [some (.ref i), some (.int 50), some (.tup zs), none, some (.ref P), none, none]) (st1 := s2 ++ [.lst []]) (by simp [hP]) ?_
    refine seq_nx (s1 := [some (.ref i), some (.int 50), some (.tup zs), none, some (.ref P), some (.ref (P + 1)), none]) (st1 := s3) (by simp [hP, hs3]) ?_
    refine seq_nx (mFor_runL (st1 := s4) (ws := rngW 0 k4) (rng1_nat (by simp [e4, sizeLine_eq]) (by omega)) e5) ?_
    simp [e6', q5, asL, sizeLine_eq, show fs.length ≤ 16777216 by omega]
  · refine ⟨by have := d02.o.1; have := o3.1; have := d4.o.1; have := o5.1; have := d6.o.1; omega, fun j hj hn => ?_⟩
    have l2 := d02.o.1
    have l3 := o3.1
    have l4 := d4.o.1
    have l5 := o5.1
    rw [d6.o.2 j (by omega) hn, o5.2 j (by omega) (by simp only [List.mem_cons, List.not_mem_nil, or_false, not_or] at hn ⊢; exact ⟨hn, by omega, by omega⟩), d4.o.2 j (by omega) hn, o3.2 j (by omega) (by simp), d02.o.2 j hj hn]
end Gn

namespace Gn
open PySem L2 Mi
/-! ### a drawn tree is among the values asked about -/
theorem pwI {K n : Nat} {i : Int} (h0 : 0 ≤ i) (h1 : i ≤ 100000) : Pw K n (.int i) := by cases n <;> exact ⟨by omega, by omega⟩
theorem pwT {K n : Nat} {z : Str} (h : z ∈ strA) : Pw K n (.str z) := by cases n <;> exact h
section
variable {sz : Nat} {pr : List Int} {g : Bool} {K : Nat}
theorem pwEs {k n : Nat} {op : List Int} (h : ∀ e, fineE k e → rE sz pr op e = true → Pw K n (encE e)) : ∀ a : Exs, fineEs k a → rEs sz pr op a = true → ∀ x ∈ encEs a, Pw K n x
  | .nil, _, _ => by simp [encEs]
  | .cons e r, hf, hr => fun x hx => by
    rw [fineEs] at hf
    simp only [rEs, Bool.and_eq_true] at hr
    rw [encEs] at hx
    rcases List.mem_cons.mp hx with rfl | hx
    · exact h e hf.1 hr.1
    · exact pwEs h r hf.2 hr.2 x hx
theorem pwE (hK : 4 ≤ K) (hsz : sz ≤ 1000) (hpr : pr.length ≤ 1000) {op : List Int} (ho : ∀ x ∈ op, x ≤ 1000) : ∀ (k : Nat) (e : Ex), fineE k e → rE sz pr op e = true → Pw K (2 * k) (encE e) := by
  intro k
  induction k with
  | zero => intro e h; cases e <;> simp [fineE] at h
  | succ k ih =>
    intro e h hr
    have ih1 : ∀ e, fineE k e → rE sz pr op e = true → Pw K (2 * k + 1) (encE e) := fun e a b => Pw.mono (Nat.le_refl _) (by omega) (ih e a b)
    show Pw K (2 * k + 1 + 1) (encE e)
    cases e with
    | num i => simp only [fineE] at h; exact ⟨by simp; omega, by simp only [List.mem_cons, List.not_mem_nil, or_false, forall_eq_or_imp, forall_eq]; exact ⟨pwT (by decide), pwI h.1 (by omega)⟩⟩
    | slot i =>
      simp only [fineE] at h
      simp only [rE, decide_eq_true_eq] at hr
      exact ⟨by simp; omega, by simp only [List.mem_cons, List.not_mem_nil, or_false, forall_eq_or_imp, forall_eq]; exact ⟨pwT (by decide), pwI h (by have := ho i hr; omega)⟩⟩
    | inputs => exact ⟨by simp; omega, by simp only [List.mem_cons, List.not_mem_nil, or_false, forall_eq_or_imp, forall_eq]; exact pwT (by decide)⟩
    | tab t e =>
      simp only [fineE] at h
      simp only [rE, Bool.and_eq_true, decide_eq_true_eq] at hr
      exact ⟨by simp; omega, by simp only [List.mem_cons, List.not_mem_nil, or_false, forall_eq_or_imp, forall_eq]; exact ⟨pwT (by decide), pwI h.1 (by omega), ih1 e h.2 hr.2⟩⟩
    | call f a =>
      simp only [fineE] at h
      simp only [rE, Bool.and_eq_true, callOk, decide_eq_true_eq] at hr
      exact ⟨by simp; omega, by simp only [List.mem_cons, List.not_mem_nil, or_false, forall_eq_or_imp, forall_eq]; exact ⟨pwT (by decide), pwI h.1 (by omega), ⟨by omega, pwEs ih a h.2.2 hr.2⟩⟩⟩
    | input e => simp only [fineE] at h; simp only [rE] at hr; exact ⟨by simp; omega, by simp only [List.mem_cons, List.not_mem_nil, or_false, forall_eq_or_imp, forall_eq]; exact ⟨pwT (by decide), ih1 e h hr⟩⟩
    | not e => simp only [fineE] at h; simp only [rE] at hr; exact ⟨by simp; omega, by simp only [List.mem_cons, List.not_mem_nil, or_false, forall_eq_or_imp, forall_eq]; exact ⟨pwT (by decide), ih1 e h hr⟩⟩
    | op s a b =>
      simp only [fineE] at h
      simp only [rE, Bool.and_eq_true] at hr
      exact ⟨by simp; omega, by simp only [List.mem_cons, List.not_mem_nil, or_false, forall_eq_or_imp, forall_eq]; exact ⟨pwT (by decide), pwT (by simp only [strA, List.mem_append]; exact .inr h.1), ih1 a h.2.1 hr.1, ih1 b h.2.2 hr.2⟩⟩
    | lg o a b =>
      simp only [fineE] at h
      simp only [rE, Bool.and_eq_true] at hr
      exact ⟨by simp; omega, by simp only [List.mem_cons, List.not_mem_nil, or_false, forall_eq_or_imp, forall_eq]; exact ⟨pwT (by cases o <;> decide), ih1 a h.1 hr.1, ih1 b h.2 hr.2⟩⟩
mutual
theorem rS_up : ∀ (s : Sm') (op : List Int) (nx : Int) (op' : List Int) (nx' : Int), rS sz pr g s op nx = some (op', nx') → (∀ x ∈ op, x ≤ nx) → nx ≤ nx' ∧ ∀ x ∈ op', x ≤ nx'
  | .lt true i e, op, nx, op', nx', h, ho => by
    simp only [rS] at h
    split at h
    · rename_i hc
      simp only [Option.some.injEq, Prod.mk.injEq] at h
      obtain ⟨rfl, rfl⟩ := h
      refine ⟨by omega, fun x hx => ?_⟩
      rcases List.mem_append.mp hx with z | z
      · have := ho x z; omega
      · simp only [List.mem_singleton] at z
        have := hc.2
        omega
    · cases h
  | .lt false i e, op, nx, op', nx', h, ho => by
    simp only [rS] at h
    split at h
    · simp only [Option.some.injEq, Prod.mk.injEq] at h
      obtain ⟨rfl, rfl⟩ := h
      exact ⟨by omega, ho⟩
    · cases h
  | .put t a b, op, nx, op', nx', h, ho => by
    simp only [rS] at h
    split at h
    · simp only [Option.some.injEq, Prod.mk.injEq] at h
      obtain ⟨rfl, rfl⟩ := h
      exact ⟨by omega, ho⟩
    · cases h
  | .ite c a b, op, nx, op', nx', h, ho => by
    simp only [rS] at h
    split at h
    · split at h
      · rename_i o1 n1 e1
        split at h
        · rename_i o2 n2 e2
          simp only [Option.some.injEq, Prod.mk.injEq] at h
          obtain ⟨rfl, rfl⟩ := h
          have a1 := rB_up a _ _ _ _ e1 ho
          have a2 := rB_up b _ _ _ _ e2 (fun x hx => by have := ho x hx; omega)
          exact ⟨by omega, fun x hx => by have := ho x hx; omega⟩
        · cases h
      · cases h
    · cases h
  | .whl c a, op, nx, op', nx', h, ho => by
    simp only [rS] at h
    split at h
    · split at h
      · rename_i o1 n1 e1
        simp only [Option.some.injEq, Prod.mk.injEq] at h
        obtain ⟨rfl, rfl⟩ := h
        have a1 := rB_up a _ _ _ _ e1 ho
        exact ⟨by omega, fun x hx => by have := ho x hx; omega⟩
      · cases h
    · cases h
  | .tell e, op, nx, op', nx', h, ho => by
    simp only [rS] at h
    split at h
    · simp only [Option.some.injEq, Prod.mk.injEq] at h
      obtain ⟨rfl, rfl⟩ := h
      exact ⟨by omega, ho⟩
    · cases h
  | .give e, op, nx, op', nx', h, ho => by
    simp only [rS] at h
    split at h
    · simp only [Option.some.injEq, Prod.mk.injEq] at h
      obtain ⟨rfl, rfl⟩ := h
      exact ⟨by omega, ho⟩
    · cases h
  | .run f a, op, nx, op', nx', h, ho => by
    simp only [rS] at h
    split at h
    · simp only [Option.some.injEq, Prod.mk.injEq] at h
      obtain ⟨rfl, rfl⟩ := h
      exact ⟨by omega, ho⟩
    · cases h
theorem rB_up : ∀ (ss : Sms) (op : List Int) (nx : Int) (op' : List Int) (nx' : Int), rB sz pr g ss op nx = some (op', nx') → (∀ x ∈ op, x ≤ nx) → nx ≤ nx' ∧ ∀ x ∈ op', x ≤ nx'
  | .nil, op, nx, op', nx', h, ho => by
    simp only [rB, Option.some.injEq, Prod.mk.injEq] at h
    obtain ⟨rfl, rfl⟩ := h
    exact ⟨by omega, ho⟩
  | .cons s r, op, nx, op', nx', h, ho => by
    simp only [rB] at h
    split at h
    · rename_i o1 n1 e1
      have a1 := rS_up s _ _ _ _ e1 ho
      have a2 := rB_up r _ _ _ _ h a1.2
      exact ⟨by omega, a2.2⟩
    · cases h
end
theorem pwSs {k n : Nat} (h : ∀ s op nx op' nx', fineS k s → lnS s = true → rS sz pr g s op nx = some (op', nx') → (∀ x ∈ op, x ≤ nx) → nx' ≤ 1000 → Pw K n (encS s)) : ∀ (ss : Sms) (op : List Int) (nx : Int) (op' : List Int) (nx' : Int), fineSs k ss → lnB ss = true → rB sz pr g ss op nx = some (op', nx') → (∀ x ∈ op, x ≤ nx) → nx' ≤ 1000 → (encSs ss).length ≤ 21 ∧ ∀ x ∈ encSs ss, Pw K n x
  | .nil, _, _, _, _, _, _, _, _, _ => by simp [encSs]
  | .cons s r, op, nx, op', nx', hf, hl, hr, ho, hn => by
    rw [fineSs] at hf
    simp only [lnB, Bool.and_eq_true, decide_eq_true_eq] at hl
    simp only [rB] at hr
    split at hr
    · rename_i o1 n1 e1
      have a1 := rS_up s _ _ _ _ e1 ho
      have a2 := rB_up r _ _ _ _ hr a1.2
      obtain ⟨-, b2⟩ := pwSs h r o1 n1 op' nx' hf.2 hl.2.2 hr a1.2 hn
      refine ⟨by simp [encSs]; omega, fun x hx => ?_⟩
      rw [encSs] at hx
      rcases List.mem_cons.mp hx with rfl | hx
      · exact h s op nx o1 n1 hf.1 hl.2.1 e1 ho (by omega)
      · exact b2 x hx
    · cases hr
theorem pwS (hK : 21 ≤ K) (hsz : sz ≤ 1000) (hpr : pr.length ≤ 1000) : ∀ (k : Nat) (s : Sm') (op : List Int) (nx : Int) (op' : List Int) (nx' : Int), fineS k s → lnS s = true → rS sz pr g s op nx = some (op', nx') → (∀ x ∈ op, x ≤ nx) → nx' ≤ 1000 → Pw K (2 * k) (encS s) := by
  intro k
  induction k with
  | zero => intro s op nx op' nx' h; cases s <;> simp [fineS] at h
  | succ k ih =>
    intro s op nx op' nx' h hl hr ho hn
    have up := rS_up s _ _ _ _ hr ho
    have ho2 : ∀ x ∈ op, x ≤ 1000 := fun x hx => by have := ho x hx; omega
    have ie := fun e => pwE (K := K) (by omega) hsz hpr ho2 k e
    have ie1 : ∀ e, fineE k e → rE sz pr op e = true → Pw K (2 * k + 1) (encE e) := fun e a b => Pw.mono (Nat.le_refl _) (by omega) (ie e a b)
    show Pw K (2 * k + 1 + 1) (encS s)
    cases s with
    | lt o i e =>
      simp only [fineS] at h
      cases o with
      | true =>
        simp only [rS] at hr
        split at hr
        · rename_i hc
          exact ⟨by simp; omega, by simp only [List.mem_cons, List.not_mem_nil, or_false, forall_eq_or_imp, forall_eq]; exact ⟨pwT (by decide), pwI h.1 (by have := hc.2; omega), ie1 e h.2 hc.1⟩⟩
        · cases hr
      | false =>
        simp only [rS] at hr
        split at hr
        · rename_i hc
          exact ⟨by simp; omega, by simp only [List.mem_cons, List.not_mem_nil, or_false, forall_eq_or_imp, forall_eq]; exact ⟨pwT (by decide), pwI h.1 (by have := ho2 i hc.2; omega), ie1 e h.2 hc.1⟩⟩
        · cases hr
    | put t a b =>
      simp only [fineS] at h
      simp only [rS] at hr
      split at hr
      · rename_i hc
        exact ⟨by simp; omega, by simp only [List.mem_cons, List.not_mem_nil, or_false, forall_eq_or_imp, forall_eq]; exact ⟨pwT (by decide), pwI h.1 (by have := hc.1; omega), ie1 a h.2.1 hc.2.1, ie1 b h.2.2 hc.2.2⟩⟩
      · cases hr
    | ite c a b =>
      simp only [fineS] at h
      simp only [lnS, Bool.and_eq_true] at hl
      simp only [rS] at hr
      split at hr
      · rename_i hc
        split at hr
        · rename_i o1 n1 e1
          split at hr
          · rename_i o2 n2 e2
            simp only [Option.some.injEq, Prod.mk.injEq] at hr
            obtain ⟨rfl, rfl⟩ := hr
            have u1 := rB_up a _ _ _ _ e1 ho
            have ho1 : ∀ x ∈ op, x ≤ n1 := fun x hx => by have := ho x hx; omega
            have u2 := rB_up b _ _ _ _ e2 ho1
            obtain ⟨l1, p1⟩ := pwSs ih a op nx o1 n1 h.2.1 hl.1 e1 ho (by omega)
            obtain ⟨l2, p2⟩ := pwSs ih b op n1 o2 n2 h.2.2 hl.2 e2 ho1 (by omega)
            exact ⟨by simp; omega, by simp only [List.mem_cons, List.not_mem_nil, or_false, forall_eq_or_imp, forall_eq]; exact ⟨pwT (by decide), ie1 c h.1 hc, ⟨by omega, p1⟩, ⟨by omega, p2⟩⟩⟩
          · cases hr
        · cases hr
      · cases hr
    | whl c a =>
      simp only [fineS] at h
      simp only [lnS] at hl
      simp only [rS] at hr
      split at hr
      · rename_i hc
        split at hr
        · rename_i o1 n1 e1
          simp only [Option.some.injEq, Prod.mk.injEq] at hr
          obtain ⟨rfl, rfl⟩ := hr
          obtain ⟨l1, p1⟩ := pwSs ih a op nx o1 n1 h.2 hl e1 ho (by omega)
          exact ⟨by simp; omega, by simp only [List.mem_cons, List.not_mem_nil, or_false, forall_eq_or_imp, forall_eq]; exact ⟨pwT (by decide), ie1 c h.1 hc, ⟨by omega, p1⟩⟩⟩
        · cases hr
      · cases hr
    | tell e =>
      simp only [fineS] at h
      simp only [rS] at hr
      split at hr
      · rename_i hc
        exact ⟨by simp; omega, by simp only [List.mem_cons, List.not_mem_nil, or_false, forall_eq_or_imp, forall_eq]; exact ⟨pwT (by decide), ie1 e h hc⟩⟩
      · cases hr
    | give e =>
      simp only [fineS] at h
      simp only [rS] at hr
      split at hr
      · rename_i hc
        exact ⟨by simp; omega, by simp only [List.mem_cons, List.not_mem_nil, or_false, forall_eq_or_imp, forall_eq]; exact ⟨pwT (by decide), ie1 e h hc.2⟩⟩
      · cases hr
    | run f a =>
      simp only [fineS] at h
      simp only [rS] at hr
      split at hr
      · rename_i hc
        have hc1 := hc.1
        simp only [callOk, Bool.and_eq_true, decide_eq_true_eq] at hc1
        exact ⟨by simp; omega, by simp only [List.mem_cons, List.not_mem_nil, or_false, forall_eq_or_imp, forall_eq]; exact ⟨pwT (by decide), pwI h.1 (by omega), ⟨by omega, pwEs ie a h.2.2 hc.2⟩⟩⟩
      · cases hr
theorem FnW.pw (hK : 21 ≤ K) (hsz : sz ≤ 1000) (hpr : pr.length ≤ 1000) {most : Int} (hm : most ≤ 1000) {w : W} (h : FnW sz pr g most w) : Pw K 16 w := by
  obtain ⟨a, b, ss, op, rfl, hf, hr, h0, h1, h2, h3, h4⟩ := h.ex
  have hrl : ∀ x ∈ rngI a, x ≤ a := fun x hx => by
    obtain ⟨k, hk, rfl⟩ := List.mem_map.mp hx
    have := List.mem_range.mp hk
    omega
  obtain ⟨l1, p1⟩ := pwSs (fun s op nx op' nx' => pwS (g := g) hK hsz hpr 7 s op nx op' nx') ss (rngI a) a op b hf.1 hf.2 hr hrl (by omega)
  exact ⟨by simp; omega, by simp only [List.mem_cons, List.not_mem_nil, or_false, forall_eq_or_imp, forall_eq]; exact ⟨pwI h0 (by omega), pwI (by omega) (by omega), ⟨by omega, p1⟩⟩⟩
end
theorem TreeW.pw {K : Nat} (hK : 21 ≤ K) {w : W} (h : TreeW w) : Pw K 18 w := by
  obtain ⟨zs, fs, mn, rfl, hz, hz2, hf, hF, hM⟩ := h.ex
  refine ⟨by simp; omega, ?_⟩
  simp only [List.mem_cons, List.not_mem_nil, or_false, forall_eq_or_imp, forall_eq]
  refine ⟨pwT (by decide), ⟨by omega, fun z hzz => ?_⟩, ⟨by omega, fun f hff => ?_⟩, ?_⟩
  · obtain ⟨k, rfl, h0, h1⟩ := hz2 z hzz
    exact pwI (by omega) (by omega)
  · obtain ⟨j, hj⟩ := List.getElem?_of_mem hff
    exact (hF j f hj).pw hK (by omega) (by simp; omega) (by omega)
  · exact Pw.mono (Nat.le_refl _) (by omega) (hM.pw hK (by omega) (by simp; omega) (by omega))
end Gn

namespace Gn
open PySem L2 Mi
/-! ### spoilt, odd and large values -/
def pwB (K : Nat) : Nat → W → Bool
  | _, .int i => decide (-1000000 ≤ i ∧ i ≤ 1000000)
  | _, .bl _ => true
  | _, .non => true
  | _, .str z => decide (z ∈ strA)
  | n + 1, .tup xs => decide (xs.length ≤ K) && xs.all (pwB K n)
  | n + 1, .lst xs => decide (xs.length ≤ K) && xs.all (pwB K n)
  | _, _ => false
theorem pwB_ok {K : Nat} : ∀ (n : Nat) (w : W), pwB K n w = true → Pw K n w := by
  intro n
  induction n with
  | zero =>
    intro w h
    cases w <;> simp [pwB] at h
    · exact trivial
    · exact trivial
    · exact h
    · exact h
  | succ n ih =>
    intro w h
    cases w <;> simp [pwB] at h
    · exact trivial
    · exact trivial
    · exact h
    · exact h
    · exact ⟨h.1, fun x hx => ih x (h.2 x hx)⟩
    · exact ⟨h.1, fun x hx => ih x (h.2 x hx)⟩
def inpW : W := .tup [.str "inputs"]
def oddA : List W := [.int 0, .int 1, .int 2, .int 3, .int 4, .int 5, .int 8, .int 64, .int 65, .int 65535, .int 65536, .int (-1), .bl true, .bl false, .non, .str "", .str "x", .str "+", .str "mod", .str "give", .tup [], .lst [], inpW, .tup [.str "slot", .int 0]]
def oddB : List W := [.tup [.str "slot", .int 1], .tup [.str "slot", .int 2], .tup [.str "slot", .int 5], .tup [.str "slot", .bl true], .tup [.str "number", .int 7], .tup [.str "number", .int 65536], .tup [.str "at", .int 0, inpW], .tup [.str "at", .int 9, inpW]]
def oddC : List W := [.tup [.str "call", .int 0, .tup []], .tup [.str "call", .int 1, .tup [inpW]], .tup [.str "input", inpW], .tup [.str "op", .str "=", inpW, inpW], .tup [.int 0, .int 0, .tup []], .tup [.int 1, .int 1, .tup []]]
def oddD : List W := [.tup [.str "let", .int 0, inpW], .tup [.str "let", .int 1, inpW], .tup [.str "let", .int 2, inpW], .tup [.str "set", .int 0, inpW], .tup [.str "give", inpW], .tup [.tup [.str "tell", inpW]]]
def oddL : List W := oddA ++ oddB ++ oddC ++ oddD
theorem odd_pw : ∀ w ∈ oddL, Pw 21 4 w := by
  have h : oddL.all (pwB 21 4) = true := by decide
  exact fun w hw => pwB_ok 4 w (List.all_eq_true.mp h w hw)
theorem t_odd {st : Sto} {i : Nat} (hb : Bag3 st i) : ∃ w st', m_L_odd [.ref i] st = .ok w st' ∧ D3 i st st' ∧ Pw 21 4 w := by
  obtain ⟨r, s1, e1, d1, r0, r1⟩ := t_draw st i 44 hb (by omega) (by omega)
  obtain ⟨n, rfl⟩ : ∃ n : Nat, r = (n : Int) := ⟨r.toNat, by omega⟩
  have hl : oddL.length = 44 := rfl
  have hn : n < oddL.length := by omega
  have hat : atI oddL (n : Int) = some oddL[n] := by rw [Mi.atI_nat, List.getElem?_eq_getElem hn]
  refine ⟨oddL[n], s1, ?_, d1, odd_pw _ (List.getElem_mem _)⟩
  refine def_rt (n := 1) (k := 1) rfl ?_
  show b_L_odd [some (.ref i), none] st = _
  unfold b_L_odd
  refine seq_nx (s1 := [some (.ref i), some (.lst oddA)]) (st1 := st) (by simp [sizeLine_eq, oddA, inpW]) ?_
  refine seq_nx (s1 := [some (.ref i), some (.lst (oddA ++ oddB))]) (st1 := st) (by simp [sizeLine_eq, oddA, oddB, inpW]) ?_
  refine seq_nx (s1 := [some (.ref i), some (.lst (oddA ++ oddB ++ oddC))]) (st1 := st) (by simp [sizeLine_eq, oddA, oddB, oddC, inpW]) ?_
  refine seq_nx (s1 := [some (.ref i), some (.lst oddL)]) (st1 := st) (by simp [sizeLine_eq, oddA, oddB, oddC, oddD, oddL, inpW]) ?_
  have hl2 : (oddL.length : Int) = 44 := rfl
  have hz : oddL.length ≤ 16777216 := by omega
  generalize oddL[n] = x at *
  generalize oddL = LL at *
  simp [sizeLine_eq, hz, hl2, e1, hat]
theorem t_spoilt {K : Nat} (hK : K ≤ 900) (i : Nat) (odd : W) {no : Nat} (ho : Pw K no odd) : ∀ (f n : Nat) (w : W) (st : Sto), n < f → Pw K n w → Bag3 st i → ∃ w' st', m_L_spoilt f [.ref i, w, odd] st = .ok w' st' ∧ D3 i st st' ∧ Pw (K + 1) (n + no) w' := by
  intro f
  induction f with
  | zero => intro n w st h; omega
  | succ f ih =>
    intro n w st hf hw hb
    have odd' : Pw (K + 1) (n + no) odd := Pw.mono (by omega) (by omega) ho
    have quit : ∀ st', b_L_spoilt (m_L_spoilt f) [some (.ref i), some w, some odd, none, none] st = .rt odd st' → D3 i st st' → ∃ w' st', m_L_spoilt (f + 1) [.ref i, w, odd] st = .ok w' st' ∧ D3 i st st' ∧ Pw (K + 1) (n + no) w' := fun st' e k => ⟨odd, st', def_rt rfl e, k, odd'⟩
    cases w with
    | int x => exact quit st (seq_rt (by simp)) (D3.refl hb)
    | bl x => exact quit st (seq_rt (by simp)) (D3.refl hb)
    | non => exact quit st (seq_rt (by simp)) (D3.refl hb)
    | str x => exact quit st (seq_rt (by simp)) (D3.refl hb)
    | lst x => exact quit st (seq_rt (by simp)) (D3.refl hb)
    | ref x => cases n <;> cases hw
    | xst x => cases n <;> cases hw
    | tup xs =>
      cases n with
      | zero => cases hw
      | succ n =>
        have hww : Pw K (n + 1) (.tup xs) := hw
        obtain ⟨hl, hx⟩ := hw
        have hz : xs.length ≤ 16777216 := by omega
        by_cases h0 : xs = []
        · subst h0
          exact quit st (seq_rt (by simp [sizeLine_eq])) (D3.refl hb)
        have hpos : 0 < xs.length := List.length_pos_iff.mpr h0
        have hn0 : ¬ ((xs.length : Int) = 0) := by omega
        obtain ⟨q, s1, e1, k1, q0, q1⟩ := t_draw st i 12 hb (by omega) (by omega)
        by_cases hq : q = 0
        · subst hq
          exact quit s1 (seq_rt (by simp [-mEq, mEq_ii, hn0, h0, sizeLine_eq, hz, e1])) k1
        obtain ⟨p, s2, e2, k2, p0, p1⟩ := t_draw s1 i (xs.length : Int) k1.b (by omega) (by omega)
        obtain ⟨p, rfl⟩ : ∃ n : Nat, p = (n : Int) := ⟨p.toNat, by omega⟩
        have hp : p < xs.length := by omega
        obtain ⟨c, s3, e3, k3, c0, c1⟩ := t_draw s2 i 20 k2.b (by omega) (by omega)
        have k13 := (k1.trans k2).trans k3
        have u1 := cutTt xs p
        have u2 := cutDd xs (p + 1)
        have u3 := cutDd xs p
        have u4 := cutMm xs p (p + 1)
        have u5 := cutMm xs (p + 1) (p + 2)
        have u6 := cutDd xs (p + 2)
        have a1 : ((p + 1 : Nat) : Int) = (p : Int) + 1 := by omega
        have a2 : ((p + 2 : Nat) : Int) = (p : Int) + 2 := by omega
        rw [a1] at u2 u4 u5
        rw [a2] at u5 u6
        have z1 : (xs.take p).length ≤ 1000 := by simp; omega
        have z2 : (xs.drop (p + 1)).length ≤ 1000 := by simp; omega
        have z3 : (xs.drop p).length ≤ 1000 := by simp; omega
        have z4 : ((xs.drop p).take (p + 1 - p)).length ≤ 1000 := by simp; omega
        have z5 : ((xs.drop (p + 1)).take (p + 2 - (p + 1))).length ≤ 1000 := by simp; omega
        have z6 : (xs.drop (p + 2)).length ≤ 1000 := by simp; omega
        have hn1 : n + 1 + no = (n + no) + 1 := by omega
        rw [hn1] at odd' ⊢
        have old : ∀ x ∈ xs, Pw (K + 1) (n + no) x := fun x h => Pw.mono (by omega) (by omega) (hx x h)
        have oddn : Pw (K + 1) (n + no) odd := Pw.mono (by omega) (by omega) ho
        have m1 : ∀ x ∈ xs.take p, x ∈ xs := fun x h => List.mem_of_mem_take h
        have m2 : ∀ x ∈ xs.drop (p + 1), x ∈ xs := fun x h => List.mem_of_mem_drop h
        have m3 : ∀ x ∈ xs.drop p, x ∈ xs := fun x h => List.mem_of_mem_drop h
        have m4 : ∀ x ∈ (xs.drop p).take (p + 1 - p), x ∈ xs := fun x h => List.mem_of_mem_drop (List.mem_of_mem_take h)
        have m5 : ∀ x ∈ (xs.drop (p + 1)).take (p + 2 - (p + 1)), x ∈ xs := fun x h => List.mem_of_mem_drop (List.mem_of_mem_take h)
        have m6 : ∀ x ∈ xs.drop (p + 2), x ∈ xs := fun x h => List.mem_of_mem_drop h
        have l1 : (xs.take p).length = p := by simp; omega
        have l2 : (xs.drop (p + 1)).length = xs.length - (p + 1) := by simp
        have l3 : (xs.drop p).length = xs.length - p := by simp
        have l4 : ((xs.drop p).take (p + 1 - p)).length = 1 := by simp; omega
        have l5 : ((xs.drop (p + 1)).take (p + 2 - (p + 1))).length = min 1 (xs.length - (p + 1)) := by simp
        have l6 : (xs.drop (p + 2)).length = xs.length - (p + 2) := by simp
        have pre : ∀ (r : SO), (mSeq (mIfS (mTest (mOp mEq (mVar 4) (mC (W.int 0)))) (mRet (mOp mAdd (mSl (mVar 1) mNoPart (mPart (mVar 3))) (mSl (mVar 1) (mPart (mOp mAdd (mVar 3) (mC (W.int 1)))) mNoPart))) mSkip)
            (mSeq (mIfS (mTest (mOp mEq (mVar 4) (mC (W.int 1)))) (mRet (mOp mAdd (mOp mAdd (mSl (mVar 1) mNoPart (mPart (mVar 3))) (mTup (mCons (mVar 2) mNil))) (mSl (mVar 1) (mPart (mVar 3)) mNoPart))) mSkip)
            (mSeq (mIfS (mTest (mOp mEq (mVar 4) (mC (W.int 2)))) (mRet (mOp mAdd (mOp mAdd (mSl (mVar 1) mNoPart (mPart (mVar 3))) (mSl (mVar 1) (mPart (mVar 3)) (mPart (mOp mAdd (mVar 3) (mC (W.int 1)))))) (mSl (mVar 1) (mPart (mVar 3)) mNoPart))) mSkip)
            (mSeq (mIfS (mTest (mOp mEq (mVar 4) (mC (W.int 3)))) (mRet (mOp mAdd (mOp mAdd (mOp mAdd (mSl (mVar 1) mNoPart (mPart (mVar 3))) (mSl (mVar 1) (mPart (mOp mAdd (mVar 3) (mC (W.int 1)))) (mPart (mOp mAdd (mVar 3) (mC (W.int 2)))))) (mSl (mVar 1) (mPart (mVar 3)) (mPart (mOp mAdd (mVar 3) (mC (W.int 1)))))) (mSl (mVar 1) (mPart (mOp mAdd (mVar 3) (mC (W.int 2)))) mNoPart))) mSkip)
            (mSeq (mIfS (mTest (mOp mEq (mVar 4) (mC (W.int 4)))) (mRet (mCB mListOf (mCons (mVar 1) mNil))) mSkip)
            (mRet (mOp mAdd (mOp mAdd (mSl (mVar 1) mNoPart (mPart (mVar 3))) (mTup (mCons (mCall 3 (m_L_spoilt f) (mCons (mVar 0) (mCons (mOp mIx (mVar 1) (mVar 3)) (mCons (mVar 2) mNil)))) mNil))) (mSl (mVar 1) (mPart (mOp mAdd (mVar 3) (mC (W.int 1)))) mNoPart)))))))) [some (.ref i), some (.tup xs), some odd, some (.int (p : Int)), some (.int c)] s3 = r →
            b_L_spoilt (m_L_spoilt f) [some (.ref i), some (.tup xs), some odd, none, none] st = r := by
          intro r h
          unfold b_L_spoilt
          refine seq_nx (s1 := [some (.ref i), some (.tup xs), some odd, none, none]) (st1 := s1) (by simp [-mEq, mEq_ii, hn0, h0, sizeLine_eq, hz, e1, hq]) ?_
          refine seq_nx (s1 := [some (.ref i), some (.tup xs), some odd, some (.int (p : Int)), none]) (st1 := s2) (by simp [sizeLine_eq, hz, e2]) ?_
          refine seq_nx (s1 := [some (.ref i), some (.tup xs), some odd, some (.int (p : Int)), some (.int c)]) (st1 := s3) (by simp [e3]) ?_
          exact h
        have done : ∀ (ys : List W) (st' : Sto), b_L_spoilt (m_L_spoilt f) [some (.ref i), some (.tup xs), some odd, none, none] st = .rt (.tup ys) st' → D3 i st st' → ys.length ≤ K + 1 → (∀ y ∈ ys, Pw (K + 1) (n + no) y) →
            ∃ w' st', m_L_spoilt (f + 1) [.ref i, .tup xs, odd] st = .ok w' st' ∧ D3 i st st' ∧ Pw (K + 1) (n + no + 1) w' := fun ys st' e k h1 h2 => ⟨.tup ys, st', def_rt rfl e, k, h1, h2⟩
        have c5 : c = 0 ∨ c = 1 ∨ c = 2 ∨ c = 3 ∨ c = 4 ∨ (¬ c = 0 ∧ ¬ c = 1 ∧ ¬ c = 2 ∧ ¬ c = 3 ∧ ¬ c = 4) := by omega
        rcases c5 with rfl | rfl | rfl | rfl | rfl | hc
        · refine done (xs.take p ++ xs.drop (p + 1)) s3 (pre _ ?_) k13 (by rw [List.length_append, l1, l2]; omega) (fun y hy => (List.mem_append.mp hy).elim (fun h => old y (m1 y h)) fun h => old y (m2 y h))
          generalize xs.take p = A1 at *
          generalize xs.drop (p + 1) = A2 at *
          exact seq_rt (by simp [u1, u2, sizeLine_eq, show A1.length + A2.length ≤ 16777216 by omega])
        · refine done (xs.take p ++ [odd] ++ xs.drop p) s3 (pre _ ?_) k13 (by rw [List.length_append, List.length_append, l1, l3]; simp; omega) (fun y hy => ?_)
          · generalize xs.take p = A1 at *
            generalize xs.drop p = A2 at *
            refine seq_nx (by simp [-mEq, mEq_ii]; exact ⟨rfl, rfl⟩) ?_
            exact seq_rt (by simp [u1, u3, sizeLine_eq, show A1.length + 1 ≤ 16777216 by omega, show A1.length + 1 + A2.length ≤ 16777216 by omega])
          · simp only [List.mem_append, List.mem_singleton] at hy
            rcases hy with (h | rfl) | h
            · exact old y (m1 y h)
            · exact oddn
            · exact old y (m3 y h)
        · refine done (xs.take p ++ (xs.drop p).take (p + 1 - p) ++ xs.drop p) s3 (pre _ ?_) k13 (by rw [List.length_append, List.length_append, l1, l3, l4]; omega) (fun y hy => ?_)
          · generalize (xs.drop p).take (p + 1 - p) = A3 at *
            generalize xs.take p = A1 at *
            generalize xs.drop p = A2 at *
            refine seq_nx (by simp [-mEq, mEq_ii]; exact ⟨rfl, rfl⟩) ?_
            refine seq_nx (by simp [-mEq, mEq_ii]; exact ⟨rfl, rfl⟩) ?_
            exact seq_rt (by simp [u1, u3, u4, sizeLine_eq, show A1.length + A3.length ≤ 16777216 by omega, show A1.length + A3.length + A2.length ≤ 16777216 by omega])
          · simp only [List.mem_append] at hy
            rcases hy with (h | h) | h
            · exact old y (m1 y h)
            · exact old y (m4 y h)
            · exact old y (m3 y h)
        · refine done (xs.take p ++ (xs.drop (p + 1)).take (p + 2 - (p + 1)) ++ (xs.drop p).take (p + 1 - p) ++ xs.drop (p + 2)) s3 (pre _ ?_) k13 (by rw [List.length_append, List.length_append, List.length_append, l1, l4, l5, l6]; omega) (fun y hy => ?_)
          · generalize (xs.drop p).take (p + 1 - p) = A3 at *
            generalize (xs.drop (p + 1)).take (p + 2 - (p + 1)) = A4 at *
            generalize xs.take p = A1 at *
            generalize xs.drop (p + 2) = A2 at *
            refine seq_nx (by simp [-mEq, mEq_ii]; exact ⟨rfl, rfl⟩) ?_
            refine seq_nx (by simp [-mEq, mEq_ii]; exact ⟨rfl, rfl⟩) ?_
            refine seq_nx (by simp [-mEq, mEq_ii]; exact ⟨rfl, rfl⟩) ?_
            exact seq_rt (by simp [u1, u4, u5, u6, sizeLine_eq, show A1.length + A4.length ≤ 16777216 by omega, show A1.length + A4.length + A3.length ≤ 16777216 by omega, show A1.length + A4.length + A3.length + A2.length ≤ 16777216 by omega, show A1.length + (A4.length + A3.length) + A2.length ≤ 16777216 by omega])
          · simp only [List.mem_append] at hy
            rcases hy with ((h | h) | h) | h
            · exact old y (m1 y h)
            · exact old y (m5 y h)
            · exact old y (m4 y h)
            · exact old y (m6 y h)
        · refine ⟨.lst xs, s3, def_rt rfl (pre _ ?_), k13, Nat.le_trans hl (by omega), old⟩
          refine seq_nx (by simp [-mEq, mEq_ii]; exact ⟨rfl, rfl⟩) ?_
          refine seq_nx (by simp [-mEq, mEq_ii]; exact ⟨rfl, rfl⟩) ?_
          refine seq_nx (by simp [-mEq, mEq_ii]; exact ⟨rfl, rfl⟩) ?_
          refine seq_nx (by simp [-mEq, mEq_ii]; exact ⟨rfl, rfl⟩) ?_
          exact seq_rt (by simp)
        · obtain ⟨w', s4, e4, k4, hw'⟩ := ih n xs[p] s3 (by omega) (hx _ (List.getElem_mem hp)) k13.b
          have atp : atI xs (p : Int) = some xs[p] := atI_nn (by omega) (by simp [hp])
          refine done (xs.take p ++ [w'] ++ xs.drop (p + 1)) s4 (pre _ ?_) (k13.trans k4) (by rw [List.length_append, List.length_append, l1, l2]; simp; omega) (fun y hy => ?_)
          · generalize xs.take p = A1 at *
            generalize xs.drop (p + 1) = A2 at *
            generalize xs[p] = XP at *
            have n0 := hc
            refine seq_nx (by simp [-mEq, mEq_ii, n0.1]; exact ⟨rfl, rfl⟩) ?_
            refine seq_nx (by simp [-mEq, mEq_ii, n0.2.1]; exact ⟨rfl, rfl⟩) ?_
            refine seq_nx (by simp [-mEq, mEq_ii, n0.2.2.1]; exact ⟨rfl, rfl⟩) ?_
            refine seq_nx (by simp [-mEq, mEq_ii, n0.2.2.2.1]; exact ⟨rfl, rfl⟩) ?_
            refine seq_nx (by simp [-mEq, mEq_ii, n0.2.2.2.2]; exact ⟨rfl, rfl⟩) ?_
            simp [u1, u2, atp, e4, sizeLine_eq, show A1.length + 1 ≤ 16777216 by omega, show A1.length + 1 + A2.length ≤ 16777216 by omega]
          · simp only [List.mem_append, List.mem_singleton] at hy
            rcases hy with (h | rfl) | h
            · exact old y (m1 y h)
            · exact hw'
            · exact old y (m2 y h)
end Gn

namespace Gn
open PySem L2 Mi
theorem flat1 {α : Type} (x : α) (k : Nat) : (List.replicate k [x]).flatten = List.replicate k x := by
  induction k with
  | zero => rfl
  | succ k ih => rw [List.replicate_succ, List.flatten_cons, ih]; rfl
def E0 : W := .tup [.int 0, .int 0, .tup []]
theorem E0_pw : Pw 21 2 E0 := pwB_ok 2 E0 (by decide)
theorem inp_pw : Pw 21 1 inpW := pwB_ok 1 inpW (by decide)
theorem t_large {st : Sto} {i : Nat} (hb : Bag3 st i) : ∃ w st', m_L_large [.ref i] st = .ok w st' ∧ D3 i st st' ∧ Pw 21 18 w := by
  obtain ⟨a, s1, e1, d1, a0, a1⟩ := t_draw st i 4 hb (by omega) (by omega)
  obtain ⟨b, s2, e2, d2, b0, b1⟩ := t_draw s1 i 4 d1.b (by omega) (by omega)
  obtain ⟨c, s3, e3, d3, c0, c1⟩ := t_draw s2 i 4 d2.b (by omega) (by omega)
  obtain ⟨n, hn⟩ : ∃ n : Nat, 7 + a = (n : Int) := ⟨(7 + a).toNat, by omega⟩
  obtain ⟨m, hm⟩ : ∃ n : Nat, 3 + b = (n : Int) := ⟨(3 + b).toNat, by omega⟩
  have hn9 : n ≤ 10 := by omega
  have hm9 : m ≤ 6 := by omega
  have k13 := (d1.trans d2).trans d3
  have hd : ∀ (w : W) (st' : Sto), b_L_large [some (.ref i), none, none, none, none, none] st = .rt w st' → m_L_large [.ref i] st = .ok w st' := fun w st' e => def_rt (n := 1) (k := 5) rfl e
  have pre : ∀ (rest : MS) (o : SO), rest [some (.ref i), some (.int (n : Int)), some (.int (m : Int)), some (.int c), none, none] s3 = o → mSeq (mAsg (mOp mAdd (mC (W.int 7)) (mCall 2 m_L_draw (mCons (mVar 0) (mCons (mC (W.int 4)) mNil)))) (mGN 1))
      (mSeq (mAsg (mOp mAdd (mC (W.int 3)) (mCall 2 m_L_draw (mCons (mVar 0) (mCons (mC (W.int 4)) mNil)))) (mGN 2))
      (mSeq (mAsg (mCall 2 m_L_draw (mCons (mVar 0) (mCons (mC (W.int 4)) mNil))) (mGN 3)) rest)) [some (.ref i), none, none, none, none, none] st = o := fun rest o ho => by
    refine seq_nx (s1 := [some (.ref i), some (.int (n : Int)), none, none, none, none]) (st1 := s1) (by simp [e1, hn]) ?_
    refine seq_nx (s1 := [some (.ref i), some (.int (n : Int)), some (.int (m : Int)), none, none, none]) (st1 := s2) (by simp [e2, hm]) ?_
    exact seq_nx (s1 := [some (.ref i), some (.int (n : Int)), some (.int (m : Int)), some (.int c), none, none]) (st1 := s3) (by simp [e3]) ho
  have tree : ∀ x y z : W, Pw 21 17 x → Pw 21 17 y → Pw 21 17 z → Pw 21 18 (.tup [.str "checked", x, y, z]) := fun x y z hx hy hz => ⟨by simp, by
    simp only [List.mem_cons, List.not_mem_nil, or_false, forall_eq_or_imp, forall_eq]
    exact ⟨pwT (by decide), hx, hy, hz⟩⟩
  have emp : Pw 21 17 (.tup []) := ⟨by simp, by simp⟩
  have e0 : Pw 21 17 E0 := Pw.mono (by omega) (by omega) E0_pw
  have cc : c = 0 ∨ c = 1 ∨ c = 2 ∨ (¬ c = 0 ∧ ¬ c = 1 ∧ ¬ c = 2) := by omega
  rcases cc with rfl | rfl | rfl | ⟨n0, n1, n2⟩
  · have z := mLc_of (it := mIRng1 (mCons (mVar 1) mNil)) (n := .nm 4) (t := mYes) (e := e0_L_large) (vs := [4]) (s := [some (.ref i), some (.int (n : Int)), some (.int (m : Int)), some (.int 0), none, none]) (st := s3) (st1 := s3) (ws := rngW 0 n) (rng1_nat (by simp) (by omega)) (by simp; omega) (fun _ => true) (fun w => match w with | .int k => .int (1 + k) | _ => .non) (fun w hw => ⟨_, rfl, rfl, fun _ => by
      obtain ⟨k, hk, rfl⟩ := mem_rng hw
      simp [e0_L_large, wipeW]⟩)
    have hZ : ∀ x ∈ ((rngW 0 n).filter fun _ => true).map (fun w : W => match w with | W.int k => W.int (1 + k) | _ => W.non), Pw 21 16 x := fun x hx => by
      obtain ⟨w, hw, rfl⟩ := List.mem_map.mp hx
      obtain ⟨k, hk, rfl⟩ := mem_rng (List.mem_filter.mp hw).1
      exact pwI (by omega) (by omega)
    have hL : (((rngW 0 n).filter fun _ => true).map (fun w : W => match w with | W.int k => W.int (1 + k) | _ => W.non)).length ≤ 10 := by
      rw [List.length_map]
      exact Nat.le_trans (List.length_filter_le _ _) (by simp; omega)
    generalize ((rngW 0 n).filter fun _ => true).map (fun w : W => match w with | W.int k => W.int (1 + k) | _ => W.non) = ZS at *
    refine ⟨.tup [.str "checked", .tup ZS, .tup [], E0], s3, hd _ _ ?_, k13, tree _ _ _ ⟨by omega, hZ⟩ emp e0⟩
    unfold b_L_large
    refine pre _ _ (seq_rt (ifS_true (st1 := s3) (by simp) ?_))
    simp [-mLc, z, asL, E0, sizeLine_eq, show ZS.length ≤ 16777216 by omega]
  · refine ⟨.tup [.str "checked", .tup [], .tup (List.replicate n E0), E0], s3, hd _ _ ?_, k13, tree _ _ _ emp ⟨by simp; omega, fun x hx => by rw [List.eq_of_mem_replicate hx]; exact Pw.mono (by decide) (by decide) E0_pw⟩ e0⟩
    unfold b_L_large
    refine pre _ _ (seq_nx (ifS_false (st1 := s3) (by simp) rfl) (seq_rt (ifS_true (st1 := s3) (by simp) ?_)))
    have hn1000 : (n : Int) ≤ 1000 := by omega
    simp [E0, sizeLine_eq, flat1, hn1000]
  · refine ⟨.tup [.str "checked", .tup [], .tup [.tup [.int m, .int m, .tup []]], .tup [.int 0, .int 0, .tup [.tup [.str "do", .int 0, .tup (List.replicate m inpW)]]]], s3, hd _ _ ?_, k13, tree _ _ _ emp ?_ ?_⟩
    · unfold b_L_large
      refine pre _ _ (seq_nx (ifS_false (st1 := s3) (by simp) rfl) (seq_nx (ifS_false (st1 := s3) (by simp) rfl) (seq_rt (ifS_true (st1 := s3) (by simp) ?_))))
      have hm1000 : (m : Int) ≤ 1000 := by omega
      simp [inpW, sizeLine_eq, flat1, hm1000]
    · refine ⟨by simp, ?_⟩
      simp only [List.mem_cons, List.not_mem_nil, or_false, forall_eq]
      refine ⟨by simp, ?_⟩
      simp only [List.mem_cons, List.not_mem_nil, or_false, forall_eq_or_imp, forall_eq]
      exact ⟨pwI (by omega) (by omega), pwI (by omega) (by omega), ⟨by simp, by simp⟩⟩
    · refine ⟨by simp, ?_⟩
      simp only [List.mem_cons, List.not_mem_nil, or_false, forall_eq_or_imp, forall_eq]
      refine ⟨pwI (by omega) (by omega), pwI (by omega) (by omega), ⟨by simp, ?_⟩⟩
      simp only [List.mem_cons, List.not_mem_nil, or_false, forall_eq]
      refine ⟨by simp, ?_⟩
      simp only [List.mem_cons, List.not_mem_nil, or_false, forall_eq_or_imp, forall_eq]
      exact ⟨pwT (by decide), pwI (by omega) (by omega), ⟨by simp; omega, fun x hx => by rw [List.eq_of_mem_replicate hx]; exact Pw.mono (by decide) (by decide) inp_pw⟩⟩
  · obtain ⟨q, s4, e4, d4, q0, q1⟩ := t_draw s3 i 5 d3.b (by omega) (by omega)
    obtain ⟨N, hN⟩ : ∃ N : Nat, 8 + q = (N : Int) := ⟨(8 + q).toNat, by omega⟩
    have hN12 : N ≤ 12 := by omega
    have loop : ∀ (ws : List W) (w : W) (lv : Nat) (st : Sto) (x4 : Option W), Pw 21 lv w → lv + ws.length ≤ 13 → 1 ≤ lv → Bag3 st i → ∃ (w' : W) (st' : Sto) (y4 : Option W), runL (mGN 4) l1_L_large ws [some (.ref i), some (.int (n : Int)), some (.int (m : Int)), some (.int c), x4, some w] st = .nx [some (.ref i), some (.int (n : Int)), some (.int (m : Int)), some (.int c), y4, some w'] st' ∧ D3 i st st' ∧ Pw 21 13 w' := by
      intro ws
      induction ws with
      | nil => intro w lv st x4 hw hl h1 hb; exact ⟨w, st, x4, rfl, D3.refl hb, Pw.mono (by omega) (by simpa using hl) hw⟩
      | cons y ws ih =>
        intro w lv st x4 hw hl h1 hb
        simp only [List.length_cons] at hl
        obtain ⟨r, t1, f1, g1, r0, r1⟩ := t_draw st i 4 hb (by omega) (by omega)
        have inl : Pw 21 lv inpW := Pw.mono (by omega) h1 inp_pw
        obtain ⟨w2, hw2, p2⟩ : ∃ w2, atI [W.tup [.str "not", w], .tup [.str "op", .str "+", w, inpW], .tup [.str "and", inpW, w], .tup [.str "input", w]] r = some w2 ∧ Pw 21 (lv + 1) w2 := by
          have : r = 0 ∨ r = 1 ∨ r = 2 ∨ r = 3 := by omega
          rcases this with rfl | rfl | rfl | rfl
          · exact ⟨_, rfl, by simp, by simp only [List.mem_cons, List.not_mem_nil, or_false, forall_eq_or_imp, forall_eq]; exact ⟨pwT (by decide), hw⟩⟩
          · exact ⟨_, rfl, by simp, by simp only [List.mem_cons, List.not_mem_nil, or_false, forall_eq_or_imp, forall_eq]; exact ⟨pwT (by decide), pwT (by decide), hw, inl⟩⟩
          · exact ⟨_, rfl, by simp, by simp only [List.mem_cons, List.not_mem_nil, or_false, forall_eq_or_imp, forall_eq]; exact ⟨pwT (by decide), inl, hw⟩⟩
          · exact ⟨_, rfl, by simp, by simp only [List.mem_cons, List.not_mem_nil, or_false, forall_eq_or_imp, forall_eq]; exact ⟨pwT (by decide), hw⟩⟩
        obtain ⟨w', st', y4, e', d', p'⟩ := ih w2 (lv + 1) t1 (some y) p2 (by omega) (by omega) g1.b
        refine ⟨w', st', y4, ?_, g1.trans d', p'⟩
        have hbody : l1_L_large [some (.ref i), some (.int (n : Int)), some (.int (m : Int)), some (.int c), some y, some w] st = .nx [some (.ref i), some (.int (n : Int)), some (.int (m : Int)), some (.int c), some y, some w2] t1 := by
          unfold inpW at hw2
          simp [l1_L_large, sizeLine_eq, f1, hw2]
        have hg : (mGN 4) y [some (.ref i), some (.int (n : Int)), some (.int (m : Int)), some (.int c), x4, some w] st = some ([some (.ref i), some (.int (n : Int)), some (.int (m : Int)), some (.int c), some y, some w], st) := rfl
        simp only [runL, hg, hbody, e']
    obtain ⟨w', s5, y4, e5, d5, p5⟩ := loop (rngW 0 N) inpW 1 s4 none inp_pw (by simp; omega) (by omega) d4.b
    refine ⟨.tup [.str "checked", .tup [], .tup [], .tup [.int 0, .int 0, .tup [.tup [.str "tell", w']]]], s5, hd _ _ ?_, (k13.trans d4).trans d5, tree _ _ _ emp emp ?_⟩
    · unfold b_L_large
      refine pre _ _ (seq_nx (ifS_false (st1 := s3) (by simp [n0]) rfl) (seq_nx (ifS_false (st1 := s3) (by simp [n1]) rfl) (seq_nx (ifS_false (st1 := s3) (by simp [n2]) rfl) ?_)))
      refine seq_nx (s1 := [some (.ref i), some (.int (n : Int)), some (.int (m : Int)), some (.int c), none, some inpW]) (st1 := s3) (by simp [inpW, sizeLine_eq]) ?_
      refine seq_nx (mFor_runL (st1 := s4) (ws := rngW 0 N) (rng1_nat (by simp [e4, hN]) (by omega)) e5) ?_
      simp [sizeLine_eq]
    · refine ⟨by simp, ?_⟩
      simp only [List.mem_cons, List.not_mem_nil, or_false, forall_eq_or_imp, forall_eq]
      refine ⟨pwI (by omega) (by omega), pwI (by omega) (by omega), ⟨by simp, ?_⟩⟩
      simp only [List.mem_cons, List.not_mem_nil, or_false, forall_eq]
      refine ⟨by simp, ?_⟩
      simp only [List.mem_cons, List.not_mem_nil, or_false, forall_eq_or_imp, forall_eq]
      exact ⟨pwT (by decide), Pw.mono (by omega) (by omega) p5⟩
end Gn

namespace Gn
open PySem L2 Mi
theorem Bag3.kp {st st' : Sto} {i : Nat} (h : Bag3 st i) (k : Kp st.length st st') : Bag3 st' i := by
  obtain ⟨a, b, c, e⟩ := h
  exact ⟨a, b, c, k.rd e (List.getElem?_eq_some_iff.mp e).1⟩
theorem t_spoils {i : Nat} (x0 x1 x4 : Option W) : ∀ (ws : List W) (w : W) (t : Nat) (st : Sto) (x5 : Option W), Pw (25 + t) (18 + 4 * t) w → t + ws.length ≤ 2 → Bag3 st i → ∃ (w' : W) (st' : Sto) (y5 : Option W), runL (mGN 5) l0_law ws [x0, x1, some (.ref i), some w, x4, x5] st = .nx [x0, x1, some (.ref i), some w', x4, y5] st' ∧ D3 i st st' ∧ Pw 30 26 w' := by
  intro ws
  induction ws with
  | nil => intro w t st x5 hw hl hb; exact ⟨w, st, x5, rfl, D3.refl hb, Pw.mono (by simp at hl; omega) (by simp at hl; omega) hw⟩
  | cons y ws ih =>
    intro w t st x5 hw hl hb
    simp only [List.length_cons] at hl
    obtain ⟨o, s1, e1, d1, p1⟩ := t_odd hb
    obtain ⟨w1, s2, e2, d2, p2⟩ := t_spoilt (K := 25 + t) (by omega) i o (no := 4) (Pw.mono (by omega) (by omega) p1) 30 (18 + 4 * t) w s1 (by omega) hw d1.b
    obtain ⟨w', st', y5, e', d', p'⟩ := ih w1 (t + 1) s2 (some y) (Pw.mono (by omega) (by omega) p2) (by omega) d2.b
    refine ⟨w', st', y5, ?_, (d1.trans d2).trans d', p'⟩
    have hbody : l0_law [x0, x1, some (.ref i), some w, x4, some y] st = .nx [x0, x1, some (.ref i), some w1, x4, some y] s2 := by
      simp [l0_law, e1, e2]
    have hg : (mGN 5) y [x0, x1, some (.ref i), some w, x4, x5] st = some ([x0, x1, some (.ref i), some w, x4, some y], st) := rfl
    simp only [runL, hg, hbody, e']
theorem t_cell (ns : List Int) (hn : ns.length ≤ 63) (k : Nat) (x2 x3 x4 x5 : Option W) (st : Sto) : ∃ (z2 z3 z4 z5 : Option W) (st' : Sto), l1_law [some (.xst (ns.map W.int)), some (.int (k : Int)), x2, x3, x4, x5] st = .nx [some (.xst (ns.map W.int)), some (.int (k : Int)), z2, z3, z4, z5] st' := by
  obtain ⟨s1, e1, b1, -⟩ := t_bag ns k st hn
  obtain ⟨i, hi⟩ : ∃ i, i = st.length := ⟨_, rfl⟩
  rw [← hi] at e1 b1
  obtain ⟨w, s2, e2, d2, hw⟩ := t_checked b1
  obtain ⟨b, s3, e3, k3, hb⟩ := t_is_checked (K := 25) (by omega) (n := 18) (by omega) (hw.pw (by omega)) s2
  have hbt : b = true := hb.mpr hw.checked
  subst hbt
  have b3 := d2.b.kp k3
  obtain ⟨p, s4, e4, d4, p0, p1⟩ := t_draw s3 i 7 b3 (by omega) (by omega)
  have fin : ∀ (w' : W) (s6 : Sto) (y5 : Option W), Pw 30 26 w' → (mIfS (mTest (mOp mEq (mCall 2 m_L_draw (mCons (mVar 2) (mCons (mC (W.int 7)) mNil))) (mC (W.int 0)))) (mAsg (mCall 1 m_L_large (mCons (mVar 2) mNil)) (mGN 3)) (mIfS (mTest (mOp mGt (mCall 2 m_L_draw (mCons (mVar 2) (mCons (mC (W.int 4)) mNil))) (mC (W.int 0)))) (mFor (mIRng1 (mCons (mOp mAdd (mC (W.int 1)) (mCall 2 m_L_draw (mCons (mVar 2) (mCons (mC (W.int 2)) mNil)))) mNil)) (mGN 5) l0_law) mSkip)) [some (.xst (ns.map W.int)), some (.int (k : Int)), some (.ref i), some w, x4, x5] s3 = .nx [some (.xst (ns.map W.int)), some (.int (k : Int)), some (.ref i), some w', x4, y5] s6 →
      ∃ (z2 z3 z4 z5 : Option W) (st' : Sto), l1_law [some (.xst (ns.map W.int)), some (.int (k : Int)), x2, x3, x4, x5] st = .nx [some (.xst (ns.map W.int)), some (.int (k : Int)), z2, z3, z4, z5] st' := fun w' s6 y5 hw' e6 => by
    obtain ⟨c, s7, e7, k7, hc⟩ := t_is_checked (K := 30) (by omega) (n := 26) (by omega) hw' s6
    obtain ⟨d, s8, e8, k8, hd⟩ := l_is_checked (K := 30) (by omega) (n := 26) (by omega) hw' s7
    have hcd : c = d := by
      rw [Bool.eq_iff_iff, hc, hd]
    subst hcd
    refine ⟨some (.ref i), some w', some (.bl c), y5, s8, ?_⟩
    unfold l1_law
    refine seq_nx (s1 := [some (.xst (ns.map W.int)), some (.int (k : Int)), some (.ref i), x3, x4, x5]) (st1 := s1) (by simp [e1]) ?_
    refine seq_nx (s1 := [some (.xst (ns.map W.int)), some (.int (k : Int)), some (.ref i), some w, x4, x5]) (st1 := s2) (by simp [e2]) ?_
    refine seq_nx (ifS_false (st1 := s3) (by simp [e3]) rfl) ?_
    refine seq_nx e6 ?_
    refine seq_nx (s1 := [some (.xst (ns.map W.int)), some (.int (k : Int)), some (.ref i), some w', some (.bl c), y5]) (st1 := s7) (by simp [e7]) ?_
    have nb : ∀ st, mNe (.bl c) (.bl c) st = .ok (.bl false) st := fun st => by simp
    exact ifS_false (st1 := s8) (by simp [-mNe, e8, nb]) rfl
  by_cases hp : p = 0
  · obtain ⟨w', s5, e5, d5, hw'⟩ := t_large d4.b
    exact fin w' s5 x5 (Pw.mono (by omega) (by omega) hw') (ifS_true (st1 := s4) (by simp [e4, hp]) (by simp [e5]))
  · obtain ⟨q, s5, e5, d5, q0, q1⟩ := t_draw s4 i 4 d4.b (by omega) (by omega)
    by_cases hq : 0 < q
    · obtain ⟨r, s6, e6, d6, r0, r1⟩ := t_draw s5 i 2 d5.b (by omega) (by omega)
      obtain ⟨N, hN⟩ : ∃ N : Nat, 1 + r = (N : Int) := ⟨(1 + r).toNat, by omega⟩
      obtain ⟨w', s7, y5, e7, d7, p7⟩ := t_spoils (i := i) (some (.xst (ns.map W.int))) (some (.int (k : Int))) x4 (rngW 0 N) w 0 s6 x5 (hw.pw (by omega)) (by simp; omega) d6.b
      exact fin w' s7 y5 p7 (ifS_false (st1 := s4) (by simp [e4, hp]) (ifS_true (st1 := s5) (by simp [e5, hq]) (mFor_runL (st1 := s6) (ws := rngW 0 N) (rng1_nat (by simp [e6, hN]) (by omega)) e7)))
    · exact fin w s5 x5 (Pw.mono (by omega) (by omega) (hw.pw (K := 25) (by omega))) (ifS_false (st1 := s4) (by simp [e4, hp]) (ifS_false (st1 := s5) (by simp [e5, hq]) rfl))
theorem mem_rng0 {n : Nat} {w : W} (h : w ∈ rngW 0 n) : ∃ k : Nat, k < n ∧ w = .int (k : Int) := by
  obtain ⟨k, hk, rfl⟩ := mem_rng h
  exact ⟨k, hk, by simp⟩
theorem empty_checked : CheckedW (.tup [.str "checked", .tup [], .tup [], E0]) := by
  refine ⟨[], [], E0, rfl, by decide, by simp, 0, 0, .nil, [], by simp [E0, encSs], by rw [fineSs]; trivial, by rw [rB]; rfl⟩
theorem non_checked : ¬ CheckedW .non := by
  rintro ⟨_, _, _, h, -⟩
  cases h
theorem law_true : ∀ ns : List Int, ns.length ≤ 63 → (∀ z ∈ ns, Builtin.Int.intBits z ≤ 1048576) → ∃ st, m_law [.xst (ns.map W.int)] [] = .ok (.bl true) st := by
  intro ns hn _
  obtain ⟨N, hN, hN2⟩ : ∃ N : Nat, max 1 (min 6 (ns.length : Int)) = (N : Int) ∧ N ≤ 100 := ⟨(max 1 (min 6 (ns.length : Int))).toNat, by omega, by omega⟩
  have loop : ∀ (ws : List W) (y1 y2 y3 y4 y5 : Option W) (st : Sto), (∀ w ∈ ws, ∃ k : Nat, w = .int (k : Int)) → ∃ (z1 z2 z3 z4 z5 : Option W) (st' : Sto), runL (mGN 1) l1_law ws [some (.xst (ns.map W.int)), y1, y2, y3, y4, y5] st = .nx [some (.xst (ns.map W.int)), z1, z2, z3, z4, z5] st' := by
    intro ws
    induction ws with
    | nil => intro y1 y2 y3 y4 y5 st _; exact ⟨y1, y2, y3, y4, y5, st, rfl⟩
    | cons w ws ih =>
      intro y1 y2 y3 y4 y5 st hw
      obtain ⟨k, rfl⟩ := hw w (by simp)
      obtain ⟨z2, z3, z4, z5, s1, e1⟩ := t_cell ns hn k y2 y3 y4 y5 st
      obtain ⟨u1, u2, u3, u4, u5, s2, e2⟩ := ih (some (.int (k : Int))) z2 z3 z4 z5 s1 (fun x hx => hw x (by simp [hx]))
      have hg : (mGN 1) (.int (k : Int)) [some (.xst (ns.map W.int)), y1, y2, y3, y4, y5] st = some ([some (.xst (ns.map W.int)), some (.int (k : Int)), y2, y3, y4, y5], st) := rfl
      exact ⟨u1, u2, u3, u4, u5, s2, by simp only [runL, hg, e1, e2]⟩
  obtain ⟨y1, y2, y3, y4, y5, s1, e1⟩ := loop (rngW 0 N) none none none none none [] (fun w hw => by obtain ⟨k, -, h⟩ := mem_rng0 hw; exact ⟨k, h⟩)
  obtain ⟨b, s2, e2, -, hb⟩ := t_is_checked (K := 25) (by omega) (n := 1) (by omega) (w := .non) trivial s1
  have hbf : b = false := by
    cases b with
    | false => rfl
    | true => exact absurd (hb.mp rfl) non_checked
  subst hbf
  obtain ⟨c, s3, e3, -, hc⟩ := t_is_checked (K := 25) (by omega) (n := 3) (by omega) (w := .tup [.str "checked", .tup [], .tup [], E0]) (pwB_ok (K := 25) 3 _ (by decide)) s2
  have hct : c = true := hc.mpr empty_checked
  subst hct
  unfold E0 at e3
  have hz : ns.length ≤ 16777216 := by omega
  refine ⟨s3, def_rt rfl ?_⟩
  show b_law [some (.xst (ns.map W.int)), none, none, none, none, none] [] = _
  unfold b_law
  refine seq_nx (mFor_runL (ws := rngW 0 N) (rng1_nat (k := N) (st1 := []) (by simp [sizeLine_eq, hz, hN]) (by omega)) e1) ?_
  simp [e2, e3, sizeLine_eq]
end Gn

namespace Gn
open PySem L2 Mi
/-! ### what the top has written -/
theorem all_mk {l : PySem.W.OpenLaw} {w : World} {K : PySem.W.Frag} {h : Heap} {mg : Str → Option Value} {fa : Addr} (X : K.In h) (G : h.Ns mainGlobals mg) (hfa : mg "law" = some (.ref fa))
    {f_L_bag : Addr} {od_L_bag an_L_bag : Option Addr} {sl_L_bag : Array (Option Value)} {oc_L_bag kV_L_bag dc_L_bag pm_L_bag cd_L_bag ct_L_bag : Value}
    {f_L_draw : Addr} {od_L_draw an_L_draw : Option Addr} {sl_L_draw : Array (Option Value)} {oc_L_draw kV_L_draw dc_L_draw pm_L_draw cd_L_draw ct_L_draw : Value}
    {f_L_one : Addr} {od_L_one an_L_one : Option Addr} {sl_L_one : Array (Option Value)} {oc_L_one kV_L_one dc_L_one pm_L_one cd_L_one ct_L_one : Value}
    {f_L_c_e : Addr} {od_L_c_e an_L_c_e : Option Addr} {sl_L_c_e : Array (Option Value)} {oc_L_c_e kV_L_c_e dc_L_c_e pm_L_c_e cd_L_c_e ct_L_c_e : Value}
    {f_L_c_args : Addr} {od_L_c_args an_L_c_args : Option Addr} {sl_L_c_args : Array (Option Value)} {oc_L_c_args kV_L_c_args dc_L_c_args pm_L_c_args cd_L_c_args ct_L_c_args : Value}
    {f_L_c_body : Addr} {od_L_c_body an_L_c_body : Option Addr} {sl_L_c_body : Array (Option Value)} {oc_L_c_body kV_L_c_body dc_L_c_body pm_L_c_body cd_L_c_body ct_L_c_body : Value}
    {f_L_c_s : Addr} {od_L_c_s an_L_c_s : Option Addr} {sl_L_c_s : Array (Option Value)} {oc_L_c_s kV_L_c_s dc_L_c_s pm_L_c_s cd_L_c_s ct_L_c_s : Value}
    {f_L_c_function : Addr} {od_L_c_function an_L_c_function : Option Addr} {sl_L_c_function : Array (Option Value)} {oc_L_c_function kV_L_c_function dc_L_c_function pm_L_c_function cd_L_c_function ct_L_c_function : Value}
    {f_L_checked : Addr} {od_L_checked an_L_checked : Option Addr} {sl_L_checked : Array (Option Value)} {oc_L_checked kV_L_checked dc_L_checked pm_L_checked cd_L_checked ct_L_checked : Value}
    {f_is_row : Addr} {od_is_row an_is_row : Option Addr} {sl_is_row : Array (Option Value)} {oc_is_row kV_is_row dc_is_row pm_is_row cd_is_row ct_is_row : Value}
    {f_is_list : Addr} {od_is_list an_is_list : Option Addr} {sl_is_list : Array (Option Value)} {oc_is_list kV_is_list dc_is_list pm_is_list cd_is_list ct_is_list : Value}
    {f_is_integer : Addr} {od_is_integer an_is_integer : Option Addr} {sl_is_integer : Array (Option Value)} {oc_is_integer kV_is_integer dc_is_integer pm_is_integer cd_is_integer ct_is_integer : Value}
    {f_is_number : Addr} {od_is_number an_is_number : Option Addr} {sl_is_number : Array (Option Value)} {oc_is_number kV_is_number dc_is_number pm_is_number cd_is_number ct_is_number : Value}
    {f_starts_with_string : Addr} {od_starts_with_string an_starts_with_string : Option Addr} {sl_starts_with_string : Array (Option Value)} {oc_starts_with_string kV_starts_with_string dc_starts_with_string pm_starts_with_string cd_starts_with_string ct_starts_with_string : Value}
    {f_is_word : Addr} {od_is_word an_is_word : Option Addr} {sl_is_word : Array (Option Value)} {oc_is_word kV_is_word dc_is_word pm_is_word cd_is_word ct_is_word : Value}
    {f_is_leaf : Addr} {od_is_leaf an_is_leaf : Option Addr} {sl_is_leaf : Array (Option Value)} {oc_is_leaf kV_is_leaf dc_is_leaf pm_is_leaf cd_is_leaf ct_is_leaf : Value}
    {f_is_body : Addr} {od_is_body an_is_body : Option Addr} {sl_is_body : Array (Option Value)} {oc_is_body kV_is_body dc_is_body pm_is_body cd_is_body ct_is_body : Value}
    {f_is_statement : Addr} {od_is_statement an_is_statement : Option Addr} {sl_is_statement : Array (Option Value)} {oc_is_statement kV_is_statement dc_is_statement pm_is_statement cd_is_statement ct_is_statement : Value}
    {f_is_part : Addr} {od_is_part an_is_part : Option Addr} {sl_is_part : Array (Option Value)} {oc_is_part kV_is_part dc_is_part pm_is_part cd_is_part ct_is_part : Value}
    {f_is_expression : Addr} {od_is_expression an_is_expression : Option Addr} {sl_is_expression : Array (Option Value)} {oc_is_expression kV_is_expression dc_is_expression pm_is_expression cd_is_expression ct_is_expression : Value}
    {f_is_function : Addr} {od_is_function an_is_function : Option Addr} {sl_is_function : Array (Option Value)} {oc_is_function kV_is_function dc_is_function pm_is_function cd_is_function ct_is_function : Value}
    {f_is_shaped : Addr} {od_is_shaped an_is_shaped : Option Addr} {sl_is_shaped : Array (Option Value)} {oc_is_shaped kV_is_shaped dc_is_shaped pm_is_shaped cd_is_shaped ct_is_shaped : Value}
    {f_Rules_value : Addr} {od_Rules_value an_Rules_value : Option Addr} {sl_Rules_value : Array (Option Value)} {oc_Rules_value kV_Rules_value dc_Rules_value pm_Rules_value cd_Rules_value ct_Rules_value : Value}
    {f_Rules_called : Addr} {od_Rules_called an_Rules_called : Option Addr} {sl_Rules_called : Array (Option Value)} {oc_Rules_called kV_Rules_called dc_Rules_called pm_Rules_called cd_Rules_called ct_Rules_called : Value}
    {f_Rules_slot : Addr} {od_Rules_slot an_Rules_slot : Option Addr} {sl_Rules_slot : Array (Option Value)} {oc_Rules_slot kV_Rules_slot dc_Rules_slot pm_Rules_slot cd_Rules_slot ct_Rules_slot : Value}
    {f_Rules_body : Addr} {od_Rules_body an_Rules_body : Option Addr} {sl_Rules_body : Array (Option Value)} {oc_Rules_body kV_Rules_body dc_Rules_body pm_Rules_body cd_Rules_body ct_Rules_body : Value}
    {f_Rules_statement : Addr} {od_Rules_statement an_Rules_statement : Option Addr} {sl_Rules_statement : Array (Option Value)} {oc_Rules_statement kV_Rules_statement dc_Rules_statement pm_Rules_statement cd_Rules_statement ct_Rules_statement : Value}
    {f_Rules_hold : Addr} {od_Rules_hold an_Rules_hold : Option Addr} {sl_Rules_hold : Array (Option Value)} {oc_Rules_hold kV_Rules_hold dc_Rules_hold pm_Rules_hold cd_Rules_hold ct_Rules_hold : Value}
    {f_Rules_init : Addr} {od_Rules_init an_Rules_init : Option Addr} {sl_Rules_init : Array (Option Value)} {oc_Rules_init kV_Rules_init dc_Rules_init pm_Rules_init cd_Rules_init ct_Rules_init : Value}
    {f_is_checked : Addr} {od_is_checked an_is_checked : Option Addr} {sl_is_checked : Array (Option Value)} {oc_is_checked kV_is_checked dc_is_checked pm_is_checked cd_is_checked ct_is_checked : Value}
    {f_L_large : Addr} {od_L_large an_L_large : Option Addr} {sl_L_large : Array (Option Value)} {oc_L_large kV_L_large dc_L_large pm_L_large cd_L_large ct_L_large : Value}
    {f_L_spoilt : Addr} {od_L_spoilt an_L_spoilt : Option Addr} {sl_L_spoilt : Array (Option Value)} {oc_L_spoilt kV_L_spoilt dc_L_spoilt pm_L_spoilt cd_L_spoilt ct_L_spoilt : Value}
    {f_L_odd : Addr} {od_L_odd an_L_odd : Option Addr} {sl_L_odd : Array (Option Value)} {oc_L_odd kV_L_odd dc_L_odd pm_L_odd cd_L_odd ct_L_odd : Value}
    {f_L_is_int : Addr} {od_L_is_int an_L_is_int : Option Addr} {sl_L_is_int : Array (Option Value)} {oc_L_is_int kV_L_is_int dc_L_is_int pm_L_is_int cd_L_is_int ct_L_is_int : Value}
    {f_L_shape : Addr} {od_L_shape an_L_shape : Option Addr} {sl_L_shape : Array (Option Value)} {oc_L_shape kV_L_shape dc_L_shape pm_L_shape cd_L_shape ct_L_shape : Value}
    {f_L_is_part : Addr} {od_L_is_part an_L_is_part : Option Addr} {sl_L_is_part : Array (Option Value)} {oc_L_is_part kV_L_is_part dc_L_is_part pm_L_is_part cd_L_is_part ct_L_is_part : Value}
    {f_L_is_node : Addr} {od_L_is_node an_L_is_node : Option Addr} {sl_L_is_node : Array (Option Value)} {oc_L_is_node kV_L_is_node dc_L_is_node pm_L_is_node cd_L_is_node ct_L_is_node : Value}
    {f_L_called : Addr} {od_L_called an_L_called : Option Addr} {sl_L_called : Array (Option Value)} {oc_L_called kV_L_called dc_L_called pm_L_called cd_L_called ct_L_called : Value}
    {f_L_e_holds : Addr} {od_L_e_holds an_L_e_holds : Option Addr} {sl_L_e_holds : Array (Option Value)} {oc_L_e_holds kV_L_e_holds dc_L_e_holds pm_L_e_holds cd_L_e_holds ct_L_e_holds : Value}
    {f_L_b_holds : Addr} {od_L_b_holds an_L_b_holds : Option Addr} {sl_L_b_holds : Array (Option Value)} {oc_L_b_holds kV_L_b_holds dc_L_b_holds pm_L_b_holds cd_L_b_holds ct_L_b_holds : Value}
    {f_L_s_holds : Addr} {od_L_s_holds an_L_s_holds : Option Addr} {sl_L_s_holds : Array (Option Value)} {oc_L_s_holds kV_L_s_holds dc_L_s_holds pm_L_s_holds cd_L_s_holds ct_L_s_holds : Value}
    {f_L_f_holds : Addr} {od_L_f_holds an_L_f_holds : Option Addr} {sl_L_f_holds : Array (Option Value)} {oc_L_f_holds kV_L_f_holds dc_L_f_holds pm_L_f_holds cd_L_f_holds ct_L_f_holds : Value}
    {f_L_is_checked : Addr} {od_L_is_checked an_L_is_checked : Option Addr} {sl_L_is_checked : Array (Option Value)} {oc_L_is_checked kV_L_is_checked dc_L_is_checked pm_L_is_checked cd_L_is_checked ct_L_is_checked : Value}
    {f_law : Addr} {od_law an_law : Option Addr} {sl_law : Array (Option Value)} {oc_law kV_law dc_law pm_law cd_law ct_law : Value}
    {C_Rules : Addr}
    {t_MOST_WORD : Tok}
    {p_SIGNS : Addr} {qd_SIGNS : Option Addr} {qs_SIGNS : Array (Option Value)} {qi_SIGNS : Array Value} {qn_SIGNS : Nat}
    {t_MOST_NESTED : Tok}
    {t_MOST_PARAMS : Tok}
    {t_MOST_TABLES : Tok}
    {t_MOST_FUNCTIONS : Tok}
    {t_MOST_SIZE : Tok}
    {p_STATEMENTS : Addr} {es_STATEMENTS : Array DictEntry} {en_STATEMENTS : Nat}
    {pp7_STATEMENTS : Addr} {qd7_STATEMENTS : Option Addr} {qs7_STATEMENTS : Array (Option Value)} {qi7_STATEMENTS : Array Value} {qn7_STATEMENTS : Nat}
    {pp6_STATEMENTS : Addr} {qd6_STATEMENTS : Option Addr} {qs6_STATEMENTS : Array (Option Value)} {qi6_STATEMENTS : Array Value} {qn6_STATEMENTS : Nat}
    {pp5_STATEMENTS : Addr} {qd5_STATEMENTS : Option Addr} {qs5_STATEMENTS : Array (Option Value)} {qi5_STATEMENTS : Array Value} {qn5_STATEMENTS : Nat}
    {pp4_STATEMENTS : Addr} {qd4_STATEMENTS : Option Addr} {qs4_STATEMENTS : Array (Option Value)} {qi4_STATEMENTS : Array Value} {qn4_STATEMENTS : Nat}
    {pp3_STATEMENTS : Addr} {qd3_STATEMENTS : Option Addr} {qs3_STATEMENTS : Array (Option Value)} {qi3_STATEMENTS : Array Value} {qn3_STATEMENTS : Nat}
    {pp2_STATEMENTS : Addr} {qd2_STATEMENTS : Option Addr} {qs2_STATEMENTS : Array (Option Value)} {qi2_STATEMENTS : Array Value} {qn2_STATEMENTS : Nat}
    {pp1_STATEMENTS : Addr} {qd1_STATEMENTS : Option Addr} {qs1_STATEMENTS : Array (Option Value)} {qi1_STATEMENTS : Array Value} {qn1_STATEMENTS : Nat}
    {pp0_STATEMENTS : Addr} {qd0_STATEMENTS : Option Addr} {qs0_STATEMENTS : Array (Option Value)} {qi0_STATEMENTS : Array Value} {qn0_STATEMENTS : Nat}
    {p_EXPRESSIONS : Addr} {es_EXPRESSIONS : Array DictEntry} {en_EXPRESSIONS : Nat}
    {pp9_EXPRESSIONS : Addr} {qd9_EXPRESSIONS : Option Addr} {qs9_EXPRESSIONS : Array (Option Value)} {qi9_EXPRESSIONS : Array Value} {qn9_EXPRESSIONS : Nat}
    {pp8_EXPRESSIONS : Addr} {qd8_EXPRESSIONS : Option Addr} {qs8_EXPRESSIONS : Array (Option Value)} {qi8_EXPRESSIONS : Array Value} {qn8_EXPRESSIONS : Nat}
    {pp7_EXPRESSIONS : Addr} {qd7_EXPRESSIONS : Option Addr} {qs7_EXPRESSIONS : Array (Option Value)} {qi7_EXPRESSIONS : Array Value} {qn7_EXPRESSIONS : Nat}
    {pp6_EXPRESSIONS : Addr} {qd6_EXPRESSIONS : Option Addr} {qs6_EXPRESSIONS : Array (Option Value)} {qi6_EXPRESSIONS : Array Value} {qn6_EXPRESSIONS : Nat}
    {pp5_EXPRESSIONS : Addr} {qd5_EXPRESSIONS : Option Addr} {qs5_EXPRESSIONS : Array (Option Value)} {qi5_EXPRESSIONS : Array Value} {qn5_EXPRESSIONS : Nat}
    {pp4_EXPRESSIONS : Addr} {qd4_EXPRESSIONS : Option Addr} {qs4_EXPRESSIONS : Array (Option Value)} {qi4_EXPRESSIONS : Array Value} {qn4_EXPRESSIONS : Nat}
    {pp3_EXPRESSIONS : Addr} {qd3_EXPRESSIONS : Option Addr} {qs3_EXPRESSIONS : Array (Option Value)} {qi3_EXPRESSIONS : Array Value} {qn3_EXPRESSIONS : Nat}
    {pp2_EXPRESSIONS : Addr} {qd2_EXPRESSIONS : Option Addr} {qs2_EXPRESSIONS : Array (Option Value)} {qi2_EXPRESSIONS : Array Value} {qn2_EXPRESSIONS : Nat}
    {pp1_EXPRESSIONS : Addr} {qd1_EXPRESSIONS : Option Addr} {qs1_EXPRESSIONS : Array (Option Value)} {qi1_EXPRESSIONS : Array Value} {qn1_EXPRESSIONS : Nat}
    {pp0_EXPRESSIONS : Addr} {qd0_EXPRESSIONS : Option Addr} {qs0_EXPRESSIONS : Array (Option Value)} {qi0_EXPRESSIONS : Array Value} {qn0_EXPRESSIONS : Nat}
    (aC_Rules : PySem.W.nsIn K mainGlobals "Rules" = some (some (.ref C_Rules)))
    (a_L_bag : PySem.W.nsIn K mainGlobals "_law_bag" = some (some (.ref f_L_bag)))
    (l_L_bag : K.lookup f_L_bag = some ⟨oc_L_bag, od_L_bag, .func (PySem.W.fnOf "_law_bag" "_law_bag" (defArgs s_L_bag) (defBody s_L_bag) (defScope s_L_bag) .none kV_L_bag dc_L_bag pm_L_bag an_L_bag cd_L_bag ct_L_bag), sl_L_bag⟩)
    (c_L_bag : PySem.W.codeIn K cd_L_bag "_law_bag" = true)
    (k_L_bag : PySem.W.keepIn K (.ref f_L_bag) = true)
    (a_L_draw : PySem.W.nsIn K mainGlobals "_law_draw" = some (some (.ref f_L_draw)))
    (l_L_draw : K.lookup f_L_draw = some ⟨oc_L_draw, od_L_draw, .func (PySem.W.fnOf "_law_draw" "_law_draw" (defArgs s_L_draw) (defBody s_L_draw) (defScope s_L_draw) .none kV_L_draw dc_L_draw pm_L_draw an_L_draw cd_L_draw ct_L_draw), sl_L_draw⟩)
    (c_L_draw : PySem.W.codeIn K cd_L_draw "_law_draw" = true)
    (k_L_draw : PySem.W.keepIn K (.ref f_L_draw) = true)
    (a_L_one : PySem.W.nsIn K mainGlobals "_law_one" = some (some (.ref f_L_one)))
    (l_L_one : K.lookup f_L_one = some ⟨oc_L_one, od_L_one, .func (PySem.W.fnOf "_law_one" "_law_one" (defArgs s_L_one) (defBody s_L_one) (defScope s_L_one) .none kV_L_one dc_L_one pm_L_one an_L_one cd_L_one ct_L_one), sl_L_one⟩)
    (c_L_one : PySem.W.codeIn K cd_L_one "_law_one" = true)
    (k_L_one : PySem.W.keepIn K (.ref f_L_one) = true)
    (a_L_c_e : PySem.W.nsIn K mainGlobals "_law_c_e" = some (some (.ref f_L_c_e)))
    (l_L_c_e : K.lookup f_L_c_e = some ⟨oc_L_c_e, od_L_c_e, .func (PySem.W.fnOf "_law_c_e" "_law_c_e" (defArgs s_L_c_e) (defBody s_L_c_e) (defScope s_L_c_e) .none kV_L_c_e dc_L_c_e pm_L_c_e an_L_c_e cd_L_c_e ct_L_c_e), sl_L_c_e⟩)
    (c_L_c_e : PySem.W.codeIn K cd_L_c_e "_law_c_e" = true)
    (k_L_c_e : PySem.W.keepIn K (.ref f_L_c_e) = true)
    (a_L_c_args : PySem.W.nsIn K mainGlobals "_law_c_args" = some (some (.ref f_L_c_args)))
    (l_L_c_args : K.lookup f_L_c_args = some ⟨oc_L_c_args, od_L_c_args, .func (PySem.W.fnOf "_law_c_args" "_law_c_args" (defArgs s_L_c_args) (defBody s_L_c_args) (defScope s_L_c_args) .none kV_L_c_args dc_L_c_args pm_L_c_args an_L_c_args cd_L_c_args ct_L_c_args), sl_L_c_args⟩)
    (c_L_c_args : PySem.W.codeIn K cd_L_c_args "_law_c_args" = true)
    (k_L_c_args : PySem.W.keepIn K (.ref f_L_c_args) = true)
    (a_L_c_body : PySem.W.nsIn K mainGlobals "_law_c_body" = some (some (.ref f_L_c_body)))
    (l_L_c_body : K.lookup f_L_c_body = some ⟨oc_L_c_body, od_L_c_body, .func (PySem.W.fnOf "_law_c_body" "_law_c_body" (defArgs s_L_c_body) (defBody s_L_c_body) (defScope s_L_c_body) .none kV_L_c_body dc_L_c_body pm_L_c_body an_L_c_body cd_L_c_body ct_L_c_body), sl_L_c_body⟩)
    (c_L_c_body : PySem.W.codeIn K cd_L_c_body "_law_c_body" = true)
    (k_L_c_body : PySem.W.keepIn K (.ref f_L_c_body) = true)
    (a_L_c_s : PySem.W.nsIn K mainGlobals "_law_c_s" = some (some (.ref f_L_c_s)))
    (l_L_c_s : K.lookup f_L_c_s = some ⟨oc_L_c_s, od_L_c_s, .func (PySem.W.fnOf "_law_c_s" "_law_c_s" (defArgs s_L_c_s) (defBody s_L_c_s) (defScope s_L_c_s) .none kV_L_c_s dc_L_c_s pm_L_c_s an_L_c_s cd_L_c_s ct_L_c_s), sl_L_c_s⟩)
    (c_L_c_s : PySem.W.codeIn K cd_L_c_s "_law_c_s" = true)
    (k_L_c_s : PySem.W.keepIn K (.ref f_L_c_s) = true)
    (a_L_c_function : PySem.W.nsIn K mainGlobals "_law_c_function" = some (some (.ref f_L_c_function)))
    (l_L_c_function : K.lookup f_L_c_function = some ⟨oc_L_c_function, od_L_c_function, .func (PySem.W.fnOf "_law_c_function" "_law_c_function" (defArgs s_L_c_function) (defBody s_L_c_function) (defScope s_L_c_function) .none kV_L_c_function dc_L_c_function pm_L_c_function an_L_c_function cd_L_c_function ct_L_c_function), sl_L_c_function⟩)
    (c_L_c_function : PySem.W.codeIn K cd_L_c_function "_law_c_function" = true)
    (k_L_c_function : PySem.W.keepIn K (.ref f_L_c_function) = true)
    (a_L_checked : PySem.W.nsIn K mainGlobals "_law_checked" = some (some (.ref f_L_checked)))
    (l_L_checked : K.lookup f_L_checked = some ⟨oc_L_checked, od_L_checked, .func (PySem.W.fnOf "_law_checked" "_law_checked" (defArgs s_L_checked) (defBody s_L_checked) (defScope s_L_checked) .none kV_L_checked dc_L_checked pm_L_checked an_L_checked cd_L_checked ct_L_checked), sl_L_checked⟩)
    (c_L_checked : PySem.W.codeIn K cd_L_checked "_law_checked" = true)
    (k_L_checked : PySem.W.keepIn K (.ref f_L_checked) = true)
    (a_is_row : PySem.W.nsIn K mainGlobals "is_row" = some (some (.ref f_is_row)))
    (l_is_row : K.lookup f_is_row = some ⟨oc_is_row, od_is_row, .func (PySem.W.fnOf "is_row" "is_row" (defArgs s_is_row) (defBody s_is_row) (defScope s_is_row) .none kV_is_row dc_is_row pm_is_row an_is_row cd_is_row ct_is_row), sl_is_row⟩)
    (c_is_row : PySem.W.codeIn K cd_is_row "is_row" = true)
    (k_is_row : PySem.W.keepIn K (.ref f_is_row) = true)
    (a_is_list : PySem.W.nsIn K mainGlobals "is_list" = some (some (.ref f_is_list)))
    (l_is_list : K.lookup f_is_list = some ⟨oc_is_list, od_is_list, .func (PySem.W.fnOf "is_list" "is_list" (defArgs s_is_list) (defBody s_is_list) (defScope s_is_list) .none kV_is_list dc_is_list pm_is_list an_is_list cd_is_list ct_is_list), sl_is_list⟩)
    (c_is_list : PySem.W.codeIn K cd_is_list "is_list" = true)
    (k_is_list : PySem.W.keepIn K (.ref f_is_list) = true)
    (a_is_integer : PySem.W.nsIn K mainGlobals "is_integer" = some (some (.ref f_is_integer)))
    (l_is_integer : K.lookup f_is_integer = some ⟨oc_is_integer, od_is_integer, .func (PySem.W.fnOf "is_integer" "is_integer" (defArgs s_is_integer) (defBody s_is_integer) (defScope s_is_integer) .none kV_is_integer dc_is_integer pm_is_integer an_is_integer cd_is_integer ct_is_integer), sl_is_integer⟩)
    (c_is_integer : PySem.W.codeIn K cd_is_integer "is_integer" = true)
    (k_is_integer : PySem.W.keepIn K (.ref f_is_integer) = true)
    (a_is_number : PySem.W.nsIn K mainGlobals "is_number" = some (some (.ref f_is_number)))
    (l_is_number : K.lookup f_is_number = some ⟨oc_is_number, od_is_number, .func (PySem.W.fnOf "is_number" "is_number" (defArgs s_is_number) (defBody s_is_number) (defScope s_is_number) .none kV_is_number dc_is_number pm_is_number an_is_number cd_is_number ct_is_number), sl_is_number⟩)
    (c_is_number : PySem.W.codeIn K cd_is_number "is_number" = true)
    (k_is_number : PySem.W.keepIn K (.ref f_is_number) = true)
    (a_starts_with_string : PySem.W.nsIn K mainGlobals "starts_with_string" = some (some (.ref f_starts_with_string)))
    (l_starts_with_string : K.lookup f_starts_with_string = some ⟨oc_starts_with_string, od_starts_with_string, .func (PySem.W.fnOf "starts_with_string" "starts_with_string" (defArgs s_starts_with_string) (defBody s_starts_with_string) (defScope s_starts_with_string) .none kV_starts_with_string dc_starts_with_string pm_starts_with_string an_starts_with_string cd_starts_with_string ct_starts_with_string), sl_starts_with_string⟩)
    (c_starts_with_string : PySem.W.codeIn K cd_starts_with_string "starts_with_string" = true)
    (k_starts_with_string : PySem.W.keepIn K (.ref f_starts_with_string) = true)
    (a_is_word : PySem.W.nsIn K mainGlobals "is_word" = some (some (.ref f_is_word)))
    (l_is_word : K.lookup f_is_word = some ⟨oc_is_word, od_is_word, .func (PySem.W.fnOf "is_word" "is_word" (defArgs s_is_word) (defBody s_is_word) (defScope s_is_word) .none kV_is_word dc_is_word pm_is_word an_is_word cd_is_word ct_is_word), sl_is_word⟩)
    (c_is_word : PySem.W.codeIn K cd_is_word "is_word" = true)
    (k_is_word : PySem.W.keepIn K (.ref f_is_word) = true)
    (a_is_leaf : PySem.W.nsIn K mainGlobals "is_leaf" = some (some (.ref f_is_leaf)))
    (l_is_leaf : K.lookup f_is_leaf = some ⟨oc_is_leaf, od_is_leaf, .func (PySem.W.fnOf "is_leaf" "is_leaf" (defArgs s_is_leaf) (defBody s_is_leaf) (defScope s_is_leaf) .none kV_is_leaf dc_is_leaf pm_is_leaf an_is_leaf cd_is_leaf ct_is_leaf), sl_is_leaf⟩)
    (c_is_leaf : PySem.W.codeIn K cd_is_leaf "is_leaf" = true)
    (k_is_leaf : PySem.W.keepIn K (.ref f_is_leaf) = true)
    (a_is_body : PySem.W.nsIn K mainGlobals "is_body" = some (some (.ref f_is_body)))
    (l_is_body : K.lookup f_is_body = some ⟨oc_is_body, od_is_body, .func (PySem.W.fnOf "is_body" "is_body" (defArgs s_is_body) (defBody s_is_body) (defScope s_is_body) .none kV_is_body dc_is_body pm_is_body an_is_body cd_is_body ct_is_body), sl_is_body⟩)
    (c_is_body : PySem.W.codeIn K cd_is_body "is_body" = true)
    (k_is_body : PySem.W.keepIn K (.ref f_is_body) = true)
    (a_is_statement : PySem.W.nsIn K mainGlobals "is_statement" = some (some (.ref f_is_statement)))
    (l_is_statement : K.lookup f_is_statement = some ⟨oc_is_statement, od_is_statement, .func (PySem.W.fnOf "is_statement" "is_statement" (defArgs s_is_statement) (defBody s_is_statement) (defScope s_is_statement) .none kV_is_statement dc_is_statement pm_is_statement an_is_statement cd_is_statement ct_is_statement), sl_is_statement⟩)
    (c_is_statement : PySem.W.codeIn K cd_is_statement "is_statement" = true)
    (k_is_statement : PySem.W.keepIn K (.ref f_is_statement) = true)
    (a_is_part : PySem.W.nsIn K mainGlobals "is_part" = some (some (.ref f_is_part)))
    (l_is_part : K.lookup f_is_part = some ⟨oc_is_part, od_is_part, .func (PySem.W.fnOf "is_part" "is_part" (defArgs s_is_part) (defBody s_is_part) (defScope s_is_part) .none kV_is_part dc_is_part pm_is_part an_is_part cd_is_part ct_is_part), sl_is_part⟩)
    (c_is_part : PySem.W.codeIn K cd_is_part "is_part" = true)
    (k_is_part : PySem.W.keepIn K (.ref f_is_part) = true)
    (a_is_expression : PySem.W.nsIn K mainGlobals "is_expression" = some (some (.ref f_is_expression)))
    (l_is_expression : K.lookup f_is_expression = some ⟨oc_is_expression, od_is_expression, .func (PySem.W.fnOf "is_expression" "is_expression" (defArgs s_is_expression) (defBody s_is_expression) (defScope s_is_expression) .none kV_is_expression dc_is_expression pm_is_expression an_is_expression cd_is_expression ct_is_expression), sl_is_expression⟩)
    (c_is_expression : PySem.W.codeIn K cd_is_expression "is_expression" = true)
    (k_is_expression : PySem.W.keepIn K (.ref f_is_expression) = true)
    (a_is_function : PySem.W.nsIn K mainGlobals "is_function" = some (some (.ref f_is_function)))
    (l_is_function : K.lookup f_is_function = some ⟨oc_is_function, od_is_function, .func (PySem.W.fnOf "is_function" "is_function" (defArgs s_is_function) (defBody s_is_function) (defScope s_is_function) .none kV_is_function dc_is_function pm_is_function an_is_function cd_is_function ct_is_function), sl_is_function⟩)
    (c_is_function : PySem.W.codeIn K cd_is_function "is_function" = true)
    (k_is_function : PySem.W.keepIn K (.ref f_is_function) = true)
    (a_is_shaped : PySem.W.nsIn K mainGlobals "is_shaped" = some (some (.ref f_is_shaped)))
    (l_is_shaped : K.lookup f_is_shaped = some ⟨oc_is_shaped, od_is_shaped, .func (PySem.W.fnOf "is_shaped" "is_shaped" (defArgs s_is_shaped) (defBody s_is_shaped) (defScope s_is_shaped) .none kV_is_shaped dc_is_shaped pm_is_shaped an_is_shaped cd_is_shaped ct_is_shaped), sl_is_shaped⟩)
    (c_is_shaped : PySem.W.codeIn K cd_is_shaped "is_shaped" = true)
    (k_is_shaped : PySem.W.keepIn K (.ref f_is_shaped) = true)
    (a_Rules_value : PySem.W.findIn K (.ref C_Rules) "_value" = some (some (.ref f_Rules_value)))
    (i_Rules_value : PySem.W.isFn K (.ref f_Rules_value) = true)
    (l_Rules_value : K.lookup f_Rules_value = some ⟨oc_Rules_value, od_Rules_value, .func (PySem.W.fnOf "_value" "Rules._value" (defArgs s_Rules_value) (defBody s_Rules_value) (defScope s_Rules_value) .none kV_Rules_value dc_Rules_value pm_Rules_value an_Rules_value cd_Rules_value ct_Rules_value), sl_Rules_value⟩)
    (c_Rules_value : PySem.W.codeIn K cd_Rules_value "Rules._value" = true)
    (k_Rules_value : PySem.W.keepIn K (.ref f_Rules_value) = true)
    (a_Rules_called : PySem.W.findIn K (.ref C_Rules) "_called" = some (some (.ref f_Rules_called)))
    (i_Rules_called : PySem.W.isFn K (.ref f_Rules_called) = true)
    (l_Rules_called : K.lookup f_Rules_called = some ⟨oc_Rules_called, od_Rules_called, .func (PySem.W.fnOf "_called" "Rules._called" (defArgs s_Rules_called) (defBody s_Rules_called) (defScope s_Rules_called) .none kV_Rules_called dc_Rules_called pm_Rules_called an_Rules_called cd_Rules_called ct_Rules_called), sl_Rules_called⟩)
    (c_Rules_called : PySem.W.codeIn K cd_Rules_called "Rules._called" = true)
    (k_Rules_called : PySem.W.keepIn K (.ref f_Rules_called) = true)
    (a_Rules_slot : PySem.W.findIn K (.ref C_Rules) "_slot" = some (some (.ref f_Rules_slot)))
    (i_Rules_slot : PySem.W.isFn K (.ref f_Rules_slot) = true)
    (l_Rules_slot : K.lookup f_Rules_slot = some ⟨oc_Rules_slot, od_Rules_slot, .func (PySem.W.fnOf "_slot" "Rules._slot" (defArgs s_Rules_slot) (defBody s_Rules_slot) (defScope s_Rules_slot) .none kV_Rules_slot dc_Rules_slot pm_Rules_slot an_Rules_slot cd_Rules_slot ct_Rules_slot), sl_Rules_slot⟩)
    (c_Rules_slot : PySem.W.codeIn K cd_Rules_slot "Rules._slot" = true)
    (k_Rules_slot : PySem.W.keepIn K (.ref f_Rules_slot) = true)
    (a_Rules_body : PySem.W.findIn K (.ref C_Rules) "_body" = some (some (.ref f_Rules_body)))
    (i_Rules_body : PySem.W.isFn K (.ref f_Rules_body) = true)
    (l_Rules_body : K.lookup f_Rules_body = some ⟨oc_Rules_body, od_Rules_body, .func (PySem.W.fnOf "_body" "Rules._body" (defArgs s_Rules_body) (defBody s_Rules_body) (defScope s_Rules_body) .none kV_Rules_body dc_Rules_body pm_Rules_body an_Rules_body cd_Rules_body ct_Rules_body), sl_Rules_body⟩)
    (c_Rules_body : PySem.W.codeIn K cd_Rules_body "Rules._body" = true)
    (k_Rules_body : PySem.W.keepIn K (.ref f_Rules_body) = true)
    (a_Rules_statement : PySem.W.findIn K (.ref C_Rules) "_statement" = some (some (.ref f_Rules_statement)))
    (i_Rules_statement : PySem.W.isFn K (.ref f_Rules_statement) = true)
    (l_Rules_statement : K.lookup f_Rules_statement = some ⟨oc_Rules_statement, od_Rules_statement, .func (PySem.W.fnOf "_statement" "Rules._statement" (defArgs s_Rules_statement) (defBody s_Rules_statement) (defScope s_Rules_statement) .none kV_Rules_statement dc_Rules_statement pm_Rules_statement an_Rules_statement cd_Rules_statement ct_Rules_statement), sl_Rules_statement⟩)
    (c_Rules_statement : PySem.W.codeIn K cd_Rules_statement "Rules._statement" = true)
    (k_Rules_statement : PySem.W.keepIn K (.ref f_Rules_statement) = true)
    (a_Rules_hold : PySem.W.findIn K (.ref C_Rules) "hold" = some (some (.ref f_Rules_hold)))
    (i_Rules_hold : PySem.W.isFn K (.ref f_Rules_hold) = true)
    (l_Rules_hold : K.lookup f_Rules_hold = some ⟨oc_Rules_hold, od_Rules_hold, .func (PySem.W.fnOf "hold" "Rules.hold" (defArgs s_Rules_hold) (defBody s_Rules_hold) (defScope s_Rules_hold) .none kV_Rules_hold dc_Rules_hold pm_Rules_hold an_Rules_hold cd_Rules_hold ct_Rules_hold), sl_Rules_hold⟩)
    (c_Rules_hold : PySem.W.codeIn K cd_Rules_hold "Rules.hold" = true)
    (k_Rules_hold : PySem.W.keepIn K (.ref f_Rules_hold) = true)
    (a_Rules_init : PySem.W.findIn K (.ref C_Rules) "__init__" = some (some (.ref f_Rules_init)))
    (i_Rules_init : PySem.W.isFn K (.ref f_Rules_init) = true)
    (l_Rules_init : K.lookup f_Rules_init = some ⟨oc_Rules_init, od_Rules_init, .func (PySem.W.fnOf "__init__" "Rules.__init__" (defArgs s_Rules_init) (defBody s_Rules_init) (defScope s_Rules_init) .none kV_Rules_init dc_Rules_init pm_Rules_init an_Rules_init cd_Rules_init ct_Rules_init), sl_Rules_init⟩)
    (c_Rules_init : PySem.W.codeIn K cd_Rules_init "Rules.__init__" = true)
    (k_Rules_init : PySem.W.keepIn K (.ref f_Rules_init) = true)
    (a_is_checked : PySem.W.nsIn K mainGlobals "is_checked" = some (some (.ref f_is_checked)))
    (l_is_checked : K.lookup f_is_checked = some ⟨oc_is_checked, od_is_checked, .func (PySem.W.fnOf "is_checked" "is_checked" (defArgs s_is_checked) (defBody s_is_checked) (defScope s_is_checked) .none kV_is_checked dc_is_checked pm_is_checked an_is_checked cd_is_checked ct_is_checked), sl_is_checked⟩)
    (c_is_checked : PySem.W.codeIn K cd_is_checked "is_checked" = true)
    (k_is_checked : PySem.W.keepIn K (.ref f_is_checked) = true)
    (a_L_large : PySem.W.nsIn K mainGlobals "_law_large" = some (some (.ref f_L_large)))
    (l_L_large : K.lookup f_L_large = some ⟨oc_L_large, od_L_large, .func (PySem.W.fnOf "_law_large" "_law_large" (defArgs s_L_large) (defBody s_L_large) (defScope s_L_large) .none kV_L_large dc_L_large pm_L_large an_L_large cd_L_large ct_L_large), sl_L_large⟩)
    (c_L_large : PySem.W.codeIn K cd_L_large "_law_large" = true)
    (k_L_large : PySem.W.keepIn K (.ref f_L_large) = true)
    (a_L_spoilt : PySem.W.nsIn K mainGlobals "_law_spoilt" = some (some (.ref f_L_spoilt)))
    (l_L_spoilt : K.lookup f_L_spoilt = some ⟨oc_L_spoilt, od_L_spoilt, .func (PySem.W.fnOf "_law_spoilt" "_law_spoilt" (defArgs s_L_spoilt) (defBody s_L_spoilt) (defScope s_L_spoilt) .none kV_L_spoilt dc_L_spoilt pm_L_spoilt an_L_spoilt cd_L_spoilt ct_L_spoilt), sl_L_spoilt⟩)
    (c_L_spoilt : PySem.W.codeIn K cd_L_spoilt "_law_spoilt" = true)
    (k_L_spoilt : PySem.W.keepIn K (.ref f_L_spoilt) = true)
    (a_L_odd : PySem.W.nsIn K mainGlobals "_law_odd" = some (some (.ref f_L_odd)))
    (l_L_odd : K.lookup f_L_odd = some ⟨oc_L_odd, od_L_odd, .func (PySem.W.fnOf "_law_odd" "_law_odd" (defArgs s_L_odd) (defBody s_L_odd) (defScope s_L_odd) .none kV_L_odd dc_L_odd pm_L_odd an_L_odd cd_L_odd ct_L_odd), sl_L_odd⟩)
    (c_L_odd : PySem.W.codeIn K cd_L_odd "_law_odd" = true)
    (k_L_odd : PySem.W.keepIn K (.ref f_L_odd) = true)
    (a_L_is_int : PySem.W.nsIn K mainGlobals "_law_is_int" = some (some (.ref f_L_is_int)))
    (l_L_is_int : K.lookup f_L_is_int = some ⟨oc_L_is_int, od_L_is_int, .func (PySem.W.fnOf "_law_is_int" "_law_is_int" (defArgs s_L_is_int) (defBody s_L_is_int) (defScope s_L_is_int) .none kV_L_is_int dc_L_is_int pm_L_is_int an_L_is_int cd_L_is_int ct_L_is_int), sl_L_is_int⟩)
    (c_L_is_int : PySem.W.codeIn K cd_L_is_int "_law_is_int" = true)
    (k_L_is_int : PySem.W.keepIn K (.ref f_L_is_int) = true)
    (a_L_shape : PySem.W.nsIn K mainGlobals "_law_shape" = some (some (.ref f_L_shape)))
    (l_L_shape : K.lookup f_L_shape = some ⟨oc_L_shape, od_L_shape, .func (PySem.W.fnOf "_law_shape" "_law_shape" (defArgs s_L_shape) (defBody s_L_shape) (defScope s_L_shape) .none kV_L_shape dc_L_shape pm_L_shape an_L_shape cd_L_shape ct_L_shape), sl_L_shape⟩)
    (c_L_shape : PySem.W.codeIn K cd_L_shape "_law_shape" = true)
    (k_L_shape : PySem.W.keepIn K (.ref f_L_shape) = true)
    (a_L_is_part : PySem.W.nsIn K mainGlobals "_law_is_part" = some (some (.ref f_L_is_part)))
    (l_L_is_part : K.lookup f_L_is_part = some ⟨oc_L_is_part, od_L_is_part, .func (PySem.W.fnOf "_law_is_part" "_law_is_part" (defArgs s_L_is_part) (defBody s_L_is_part) (defScope s_L_is_part) .none kV_L_is_part dc_L_is_part pm_L_is_part an_L_is_part cd_L_is_part ct_L_is_part), sl_L_is_part⟩)
    (c_L_is_part : PySem.W.codeIn K cd_L_is_part "_law_is_part" = true)
    (k_L_is_part : PySem.W.keepIn K (.ref f_L_is_part) = true)
    (a_L_is_node : PySem.W.nsIn K mainGlobals "_law_is_node" = some (some (.ref f_L_is_node)))
    (l_L_is_node : K.lookup f_L_is_node = some ⟨oc_L_is_node, od_L_is_node, .func (PySem.W.fnOf "_law_is_node" "_law_is_node" (defArgs s_L_is_node) (defBody s_L_is_node) (defScope s_L_is_node) .none kV_L_is_node dc_L_is_node pm_L_is_node an_L_is_node cd_L_is_node ct_L_is_node), sl_L_is_node⟩)
    (c_L_is_node : PySem.W.codeIn K cd_L_is_node "_law_is_node" = true)
    (k_L_is_node : PySem.W.keepIn K (.ref f_L_is_node) = true)
    (a_L_called : PySem.W.nsIn K mainGlobals "_law_called" = some (some (.ref f_L_called)))
    (l_L_called : K.lookup f_L_called = some ⟨oc_L_called, od_L_called, .func (PySem.W.fnOf "_law_called" "_law_called" (defArgs s_L_called) (defBody s_L_called) (defScope s_L_called) .none kV_L_called dc_L_called pm_L_called an_L_called cd_L_called ct_L_called), sl_L_called⟩)
    (c_L_called : PySem.W.codeIn K cd_L_called "_law_called" = true)
    (k_L_called : PySem.W.keepIn K (.ref f_L_called) = true)
    (a_L_e_holds : PySem.W.nsIn K mainGlobals "_law_e_holds" = some (some (.ref f_L_e_holds)))
    (l_L_e_holds : K.lookup f_L_e_holds = some ⟨oc_L_e_holds, od_L_e_holds, .func (PySem.W.fnOf "_law_e_holds" "_law_e_holds" (defArgs s_L_e_holds) (defBody s_L_e_holds) (defScope s_L_e_holds) .none kV_L_e_holds dc_L_e_holds pm_L_e_holds an_L_e_holds cd_L_e_holds ct_L_e_holds), sl_L_e_holds⟩)
    (c_L_e_holds : PySem.W.codeIn K cd_L_e_holds "_law_e_holds" = true)
    (k_L_e_holds : PySem.W.keepIn K (.ref f_L_e_holds) = true)
    (a_L_b_holds : PySem.W.nsIn K mainGlobals "_law_b_holds" = some (some (.ref f_L_b_holds)))
    (l_L_b_holds : K.lookup f_L_b_holds = some ⟨oc_L_b_holds, od_L_b_holds, .func (PySem.W.fnOf "_law_b_holds" "_law_b_holds" (defArgs s_L_b_holds) (defBody s_L_b_holds) (defScope s_L_b_holds) .none kV_L_b_holds dc_L_b_holds pm_L_b_holds an_L_b_holds cd_L_b_holds ct_L_b_holds), sl_L_b_holds⟩)
    (c_L_b_holds : PySem.W.codeIn K cd_L_b_holds "_law_b_holds" = true)
    (k_L_b_holds : PySem.W.keepIn K (.ref f_L_b_holds) = true)
    (a_L_s_holds : PySem.W.nsIn K mainGlobals "_law_s_holds" = some (some (.ref f_L_s_holds)))
    (l_L_s_holds : K.lookup f_L_s_holds = some ⟨oc_L_s_holds, od_L_s_holds, .func (PySem.W.fnOf "_law_s_holds" "_law_s_holds" (defArgs s_L_s_holds) (defBody s_L_s_holds) (defScope s_L_s_holds) .none kV_L_s_holds dc_L_s_holds pm_L_s_holds an_L_s_holds cd_L_s_holds ct_L_s_holds), sl_L_s_holds⟩)
    (c_L_s_holds : PySem.W.codeIn K cd_L_s_holds "_law_s_holds" = true)
    (k_L_s_holds : PySem.W.keepIn K (.ref f_L_s_holds) = true)
    (a_L_f_holds : PySem.W.nsIn K mainGlobals "_law_f_holds" = some (some (.ref f_L_f_holds)))
    (l_L_f_holds : K.lookup f_L_f_holds = some ⟨oc_L_f_holds, od_L_f_holds, .func (PySem.W.fnOf "_law_f_holds" "_law_f_holds" (defArgs s_L_f_holds) (defBody s_L_f_holds) (defScope s_L_f_holds) .none kV_L_f_holds dc_L_f_holds pm_L_f_holds an_L_f_holds cd_L_f_holds ct_L_f_holds), sl_L_f_holds⟩)
    (c_L_f_holds : PySem.W.codeIn K cd_L_f_holds "_law_f_holds" = true)
    (k_L_f_holds : PySem.W.keepIn K (.ref f_L_f_holds) = true)
    (a_L_is_checked : PySem.W.nsIn K mainGlobals "_law_is_checked" = some (some (.ref f_L_is_checked)))
    (l_L_is_checked : K.lookup f_L_is_checked = some ⟨oc_L_is_checked, od_L_is_checked, .func (PySem.W.fnOf "_law_is_checked" "_law_is_checked" (defArgs s_L_is_checked) (defBody s_L_is_checked) (defScope s_L_is_checked) .none kV_L_is_checked dc_L_is_checked pm_L_is_checked an_L_is_checked cd_L_is_checked ct_L_is_checked), sl_L_is_checked⟩)
    (c_L_is_checked : PySem.W.codeIn K cd_L_is_checked "_law_is_checked" = true)
    (k_L_is_checked : PySem.W.keepIn K (.ref f_L_is_checked) = true)
    (a_law : PySem.W.nsIn K mainGlobals "law" = some (some (.ref f_law)))
    (l_law : K.lookup f_law = some ⟨oc_law, od_law, .func (PySem.W.fnOf "law" "law" (defArgs s_law) (defBody s_law) (defScope s_law) .none kV_law dc_law pm_law an_law cd_law ct_law), sl_law⟩)
    (c_law : PySem.W.codeIn K cd_law "law" = true)
    (k_law : PySem.W.keepIn K (.ref f_law) = true)
    (pg_Rules : PySem.W.plainGet K C_Rules Str.empty = true)
    (hd_Rules : PySem.W.hasDictIn K C_Rules = true)
    (po_Rules : PySem.W.plainOver K C_Rules = true)
    (sa_Rules : PySem.W.findIn K (.ref C_Rules) "__setattr__" = some (some (.builtin "object.__setattr__")))
    (mk_Rules : PySem.W.makesIn K C_Rules = true)
    (kc_Rules : PySem.W.keepIn K (.ref C_Rules) = true)
    (n_Rules__open : PySem.W.findIn K (.ref C_Rules) "_open" = some none)
    (n_Rules__sizes : PySem.W.findIn K (.ref C_Rules) "_sizes" = some none)
    (n_Rules__params : PySem.W.findIn K (.ref C_Rules) "_params" = some none)
    (n_Rules__next : PySem.W.findIn K (.ref C_Rules) "_next" = some none)
    (n_Rules__may_give : PySem.W.findIn K (.ref C_Rules) "_may_give" = some none)
    (n_Rules__function : PySem.W.findIn K (.ref C_Rules) "_function" = some none)
    (v_MOST_WORD : PySem.W.nsIn K mainGlobals "MOST_WORD" = some (some (.int 65535 t_MOST_WORD)))
    (v_SIGNS : PySem.W.nsIn K mainGlobals "SIGNS" = some (some (.ref p_SIGNS)))
    (q_SIGNS : K.lookup p_SIGNS = some ⟨.type "tuple", qd_SIGNS, .seq qi_SIGNS qn_SIGNS, qs_SIGNS⟩)
    (z_SIGNS : qi_SIGNS.size ≤ sizeLine)
    (r_SIGNS : Vals [V.str "+", V.str "-", V.str "*", V.str "/", V.str "mod", V.str "==", V.str "!=", V.str "<", V.str "<=", V.str ">", V.str ">="] qi_SIGNS.toList)
    (v_MOST_NESTED : PySem.W.nsIn K mainGlobals "MOST_NESTED" = some (some (.int 12 t_MOST_NESTED)))
    (v_MOST_PARAMS : PySem.W.nsIn K mainGlobals "MOST_PARAMS" = some (some (.int 4 t_MOST_PARAMS)))
    (v_MOST_TABLES : PySem.W.nsIn K mainGlobals "MOST_TABLES" = some (some (.int 8 t_MOST_TABLES)))
    (v_MOST_FUNCTIONS : PySem.W.nsIn K mainGlobals "MOST_FUNCTIONS" = some (some (.int 8 t_MOST_FUNCTIONS)))
    (v_MOST_SIZE : PySem.W.nsIn K mainGlobals "MOST_SIZE" = some (some (.int 64 t_MOST_SIZE)))
    (v_STATEMENTS : PySem.W.nsIn K mainGlobals "STATEMENTS" = some (some (.ref p_STATEMENTS)))
    (q_STATEMENTS : K.lookup p_STATEMENTS = some ⟨.type "dict", none, .dict es_STATEMENTS en_STATEMENTS, #[]⟩)
    (kl_STATEMENTS : PySem.W.KeysLit w.params es_STATEMENTS.toList)
    (lo_STATEMENTS : (p_STATEMENTS == sysModules) = false)
    (e32_STATEMENTS : PySem.W.nsIn K p_STATEMENTS ">=" = some none)
    (e31_STATEMENTS : PySem.W.nsIn K p_STATEMENTS ">" = some none)
    (e30_STATEMENTS : PySem.W.nsIn K p_STATEMENTS "<=" = some none)
    (e29_STATEMENTS : PySem.W.nsIn K p_STATEMENTS "<" = some none)
    (e28_STATEMENTS : PySem.W.nsIn K p_STATEMENTS "!=" = some none)
    (e27_STATEMENTS : PySem.W.nsIn K p_STATEMENTS "==" = some none)
    (e26_STATEMENTS : PySem.W.nsIn K p_STATEMENTS "mod" = some none)
    (e25_STATEMENTS : PySem.W.nsIn K p_STATEMENTS "/" = some none)
    (e24_STATEMENTS : PySem.W.nsIn K p_STATEMENTS "*" = some none)
    (e23_STATEMENTS : PySem.W.nsIn K p_STATEMENTS "-" = some none)
    (e22_STATEMENTS : PySem.W.nsIn K p_STATEMENTS "+" = some none)
    (e21_STATEMENTS : PySem.W.nsIn K p_STATEMENTS "x" = some none)
    (e20_STATEMENTS : PySem.W.nsIn K p_STATEMENTS "" = some none)
    (e19_STATEMENTS : PySem.W.nsIn K p_STATEMENTS "=" = some none)
    (e18_STATEMENTS : PySem.W.nsIn K p_STATEMENTS "or" = some none)
    (e17_STATEMENTS : PySem.W.nsIn K p_STATEMENTS "and" = some none)
    (e16_STATEMENTS : PySem.W.nsIn K p_STATEMENTS "op" = some none)
    (e15_STATEMENTS : PySem.W.nsIn K p_STATEMENTS "not" = some none)
    (e14_STATEMENTS : PySem.W.nsIn K p_STATEMENTS "inputs" = some none)
    (e13_STATEMENTS : PySem.W.nsIn K p_STATEMENTS "input" = some none)
    (e12_STATEMENTS : PySem.W.nsIn K p_STATEMENTS "call" = some none)
    (e11_STATEMENTS : PySem.W.nsIn K p_STATEMENTS "at" = some none)
    (e10_STATEMENTS : PySem.W.nsIn K p_STATEMENTS "slot" = some none)
    (e9_STATEMENTS : PySem.W.nsIn K p_STATEMENTS "number" = some none)
    (e8_STATEMENTS : PySem.W.nsIn K p_STATEMENTS "checked" = some none)
    (e7_STATEMENTS : PySem.W.nsIn K p_STATEMENTS "do" = some (some (.ref pp7_STATEMENTS)))
    (eq7_STATEMENTS : K.lookup pp7_STATEMENTS = some ⟨.type "tuple", qd7_STATEMENTS, .seq qi7_STATEMENTS qn7_STATEMENTS, qs7_STATEMENTS⟩)
    (z_7_STATEMENTS : qi7_STATEMENTS.size ≤ sizeLine)
    (R2_7_STATEMENTS : Vals [V.str "function", V.str "args"] qi7_STATEMENTS.toList)
    (e6_STATEMENTS : PySem.W.nsIn K p_STATEMENTS "give" = some (some (.ref pp6_STATEMENTS)))
    (eq6_STATEMENTS : K.lookup pp6_STATEMENTS = some ⟨.type "tuple", qd6_STATEMENTS, .seq qi6_STATEMENTS qn6_STATEMENTS, qs6_STATEMENTS⟩)
    (z_6_STATEMENTS : qi6_STATEMENTS.size ≤ sizeLine)
    (R1_6_STATEMENTS : Vals [V.str "expression"] qi6_STATEMENTS.toList)
    (e5_STATEMENTS : PySem.W.nsIn K p_STATEMENTS "tell" = some (some (.ref pp5_STATEMENTS)))
    (eq5_STATEMENTS : K.lookup pp5_STATEMENTS = some ⟨.type "tuple", qd5_STATEMENTS, .seq qi5_STATEMENTS qn5_STATEMENTS, qs5_STATEMENTS⟩)
    (z_5_STATEMENTS : qi5_STATEMENTS.size ≤ sizeLine)
    (R1_5_STATEMENTS : Vals [V.str "expression"] qi5_STATEMENTS.toList)
    (e4_STATEMENTS : PySem.W.nsIn K p_STATEMENTS "while" = some (some (.ref pp4_STATEMENTS)))
    (eq4_STATEMENTS : K.lookup pp4_STATEMENTS = some ⟨.type "tuple", qd4_STATEMENTS, .seq qi4_STATEMENTS qn4_STATEMENTS, qs4_STATEMENTS⟩)
    (z_4_STATEMENTS : qi4_STATEMENTS.size ≤ sizeLine)
    (R2_4_STATEMENTS : Vals [V.str "expression", V.str "body"] qi4_STATEMENTS.toList)
    (e3_STATEMENTS : PySem.W.nsIn K p_STATEMENTS "if" = some (some (.ref pp3_STATEMENTS)))
    (eq3_STATEMENTS : K.lookup pp3_STATEMENTS = some ⟨.type "tuple", qd3_STATEMENTS, .seq qi3_STATEMENTS qn3_STATEMENTS, qs3_STATEMENTS⟩)
    (z_3_STATEMENTS : qi3_STATEMENTS.size ≤ sizeLine)
    (R3_3_STATEMENTS : Vals [V.str "expression", V.str "body", V.str "body"] qi3_STATEMENTS.toList)
    (e2_STATEMENTS : PySem.W.nsIn K p_STATEMENTS "put" = some (some (.ref pp2_STATEMENTS)))
    (eq2_STATEMENTS : K.lookup pp2_STATEMENTS = some ⟨.type "tuple", qd2_STATEMENTS, .seq qi2_STATEMENTS qn2_STATEMENTS, qs2_STATEMENTS⟩)
    (z_2_STATEMENTS : qi2_STATEMENTS.size ≤ sizeLine)
    (R3_2_STATEMENTS : Vals [V.str "table", V.str "expression", V.str "expression"] qi2_STATEMENTS.toList)
    (e1_STATEMENTS : PySem.W.nsIn K p_STATEMENTS "set" = some (some (.ref pp1_STATEMENTS)))
    (eq1_STATEMENTS : K.lookup pp1_STATEMENTS = some ⟨.type "tuple", qd1_STATEMENTS, .seq qi1_STATEMENTS qn1_STATEMENTS, qs1_STATEMENTS⟩)
    (z_1_STATEMENTS : qi1_STATEMENTS.size ≤ sizeLine)
    (R2_1_STATEMENTS : Vals [V.str "slot", V.str "expression"] qi1_STATEMENTS.toList)
    (e0_STATEMENTS : PySem.W.nsIn K p_STATEMENTS "let" = some (some (.ref pp0_STATEMENTS)))
    (eq0_STATEMENTS : K.lookup pp0_STATEMENTS = some ⟨.type "tuple", qd0_STATEMENTS, .seq qi0_STATEMENTS qn0_STATEMENTS, qs0_STATEMENTS⟩)
    (z_0_STATEMENTS : qi0_STATEMENTS.size ≤ sizeLine)
    (R2_0_STATEMENTS : Vals [V.str "slot", V.str "expression"] qi0_STATEMENTS.toList)
    (v_EXPRESSIONS : PySem.W.nsIn K mainGlobals "EXPRESSIONS" = some (some (.ref p_EXPRESSIONS)))
    (q_EXPRESSIONS : K.lookup p_EXPRESSIONS = some ⟨.type "dict", none, .dict es_EXPRESSIONS en_EXPRESSIONS, #[]⟩)
    (kl_EXPRESSIONS : PySem.W.KeysLit w.params es_EXPRESSIONS.toList)
    (lo_EXPRESSIONS : (p_EXPRESSIONS == sysModules) = false)
    (e32_EXPRESSIONS : PySem.W.nsIn K p_EXPRESSIONS ">=" = some none)
    (e31_EXPRESSIONS : PySem.W.nsIn K p_EXPRESSIONS ">" = some none)
    (e30_EXPRESSIONS : PySem.W.nsIn K p_EXPRESSIONS "<=" = some none)
    (e29_EXPRESSIONS : PySem.W.nsIn K p_EXPRESSIONS "<" = some none)
    (e28_EXPRESSIONS : PySem.W.nsIn K p_EXPRESSIONS "!=" = some none)
    (e27_EXPRESSIONS : PySem.W.nsIn K p_EXPRESSIONS "==" = some none)
    (e26_EXPRESSIONS : PySem.W.nsIn K p_EXPRESSIONS "mod" = some none)
    (e25_EXPRESSIONS : PySem.W.nsIn K p_EXPRESSIONS "/" = some none)
    (e24_EXPRESSIONS : PySem.W.nsIn K p_EXPRESSIONS "*" = some none)
    (e23_EXPRESSIONS : PySem.W.nsIn K p_EXPRESSIONS "-" = some none)
    (e22_EXPRESSIONS : PySem.W.nsIn K p_EXPRESSIONS "+" = some none)
    (e21_EXPRESSIONS : PySem.W.nsIn K p_EXPRESSIONS "x" = some none)
    (e20_EXPRESSIONS : PySem.W.nsIn K p_EXPRESSIONS "" = some none)
    (e19_EXPRESSIONS : PySem.W.nsIn K p_EXPRESSIONS "=" = some none)
    (e18_EXPRESSIONS : PySem.W.nsIn K p_EXPRESSIONS "do" = some none)
    (e17_EXPRESSIONS : PySem.W.nsIn K p_EXPRESSIONS "give" = some none)
    (e16_EXPRESSIONS : PySem.W.nsIn K p_EXPRESSIONS "tell" = some none)
    (e15_EXPRESSIONS : PySem.W.nsIn K p_EXPRESSIONS "while" = some none)
    (e14_EXPRESSIONS : PySem.W.nsIn K p_EXPRESSIONS "if" = some none)
    (e13_EXPRESSIONS : PySem.W.nsIn K p_EXPRESSIONS "put" = some none)
    (e12_EXPRESSIONS : PySem.W.nsIn K p_EXPRESSIONS "set" = some none)
    (e11_EXPRESSIONS : PySem.W.nsIn K p_EXPRESSIONS "let" = some none)
    (e10_EXPRESSIONS : PySem.W.nsIn K p_EXPRESSIONS "checked" = some none)
    (e9_EXPRESSIONS : PySem.W.nsIn K p_EXPRESSIONS "or" = some (some (.ref pp9_EXPRESSIONS)))
    (eq9_EXPRESSIONS : K.lookup pp9_EXPRESSIONS = some ⟨.type "tuple", qd9_EXPRESSIONS, .seq qi9_EXPRESSIONS qn9_EXPRESSIONS, qs9_EXPRESSIONS⟩)
    (z_9_EXPRESSIONS : qi9_EXPRESSIONS.size ≤ sizeLine)
    (R2_9_EXPRESSIONS : Vals [V.str "expression", V.str "expression"] qi9_EXPRESSIONS.toList)
    (e8_EXPRESSIONS : PySem.W.nsIn K p_EXPRESSIONS "and" = some (some (.ref pp8_EXPRESSIONS)))
    (eq8_EXPRESSIONS : K.lookup pp8_EXPRESSIONS = some ⟨.type "tuple", qd8_EXPRESSIONS, .seq qi8_EXPRESSIONS qn8_EXPRESSIONS, qs8_EXPRESSIONS⟩)
    (z_8_EXPRESSIONS : qi8_EXPRESSIONS.size ≤ sizeLine)
    (R2_8_EXPRESSIONS : Vals [V.str "expression", V.str "expression"] qi8_EXPRESSIONS.toList)
    (e7_EXPRESSIONS : PySem.W.nsIn K p_EXPRESSIONS "op" = some (some (.ref pp7_EXPRESSIONS)))
    (eq7_EXPRESSIONS : K.lookup pp7_EXPRESSIONS = some ⟨.type "tuple", qd7_EXPRESSIONS, .seq qi7_EXPRESSIONS qn7_EXPRESSIONS, qs7_EXPRESSIONS⟩)
    (z_7_EXPRESSIONS : qi7_EXPRESSIONS.size ≤ sizeLine)
    (R3_7_EXPRESSIONS : Vals [V.str "sign", V.str "expression", V.str "expression"] qi7_EXPRESSIONS.toList)
    (e6_EXPRESSIONS : PySem.W.nsIn K p_EXPRESSIONS "not" = some (some (.ref pp6_EXPRESSIONS)))
    (eq6_EXPRESSIONS : K.lookup pp6_EXPRESSIONS = some ⟨.type "tuple", qd6_EXPRESSIONS, .seq qi6_EXPRESSIONS qn6_EXPRESSIONS, qs6_EXPRESSIONS⟩)
    (z_6_EXPRESSIONS : qi6_EXPRESSIONS.size ≤ sizeLine)
    (R1_6_EXPRESSIONS : Vals [V.str "expression"] qi6_EXPRESSIONS.toList)
    (e5_EXPRESSIONS : PySem.W.nsIn K p_EXPRESSIONS "inputs" = some (some (.ref pp5_EXPRESSIONS)))
    (eq5_EXPRESSIONS : K.lookup pp5_EXPRESSIONS = some ⟨.type "tuple", qd5_EXPRESSIONS, .seq qi5_EXPRESSIONS qn5_EXPRESSIONS, qs5_EXPRESSIONS⟩)
    (z_5_EXPRESSIONS : qi5_EXPRESSIONS.size ≤ sizeLine)
    (R0_5_EXPRESSIONS : Vals [] qi5_EXPRESSIONS.toList)
    (e4_EXPRESSIONS : PySem.W.nsIn K p_EXPRESSIONS "input" = some (some (.ref pp4_EXPRESSIONS)))
    (eq4_EXPRESSIONS : K.lookup pp4_EXPRESSIONS = some ⟨.type "tuple", qd4_EXPRESSIONS, .seq qi4_EXPRESSIONS qn4_EXPRESSIONS, qs4_EXPRESSIONS⟩)
    (z_4_EXPRESSIONS : qi4_EXPRESSIONS.size ≤ sizeLine)
    (R1_4_EXPRESSIONS : Vals [V.str "expression"] qi4_EXPRESSIONS.toList)
    (e3_EXPRESSIONS : PySem.W.nsIn K p_EXPRESSIONS "call" = some (some (.ref pp3_EXPRESSIONS)))
    (eq3_EXPRESSIONS : K.lookup pp3_EXPRESSIONS = some ⟨.type "tuple", qd3_EXPRESSIONS, .seq qi3_EXPRESSIONS qn3_EXPRESSIONS, qs3_EXPRESSIONS⟩)
    (z_3_EXPRESSIONS : qi3_EXPRESSIONS.size ≤ sizeLine)
    (R2_3_EXPRESSIONS : Vals [V.str "function", V.str "args"] qi3_EXPRESSIONS.toList)
    (e2_EXPRESSIONS : PySem.W.nsIn K p_EXPRESSIONS "at" = some (some (.ref pp2_EXPRESSIONS)))
    (eq2_EXPRESSIONS : K.lookup pp2_EXPRESSIONS = some ⟨.type "tuple", qd2_EXPRESSIONS, .seq qi2_EXPRESSIONS qn2_EXPRESSIONS, qs2_EXPRESSIONS⟩)
    (z_2_EXPRESSIONS : qi2_EXPRESSIONS.size ≤ sizeLine)
    (R2_2_EXPRESSIONS : Vals [V.str "table", V.str "expression"] qi2_EXPRESSIONS.toList)
    (e1_EXPRESSIONS : PySem.W.nsIn K p_EXPRESSIONS "slot" = some (some (.ref pp1_EXPRESSIONS)))
    (eq1_EXPRESSIONS : K.lookup pp1_EXPRESSIONS = some ⟨.type "tuple", qd1_EXPRESSIONS, .seq qi1_EXPRESSIONS qn1_EXPRESSIONS, qs1_EXPRESSIONS⟩)
    (z_1_EXPRESSIONS : qi1_EXPRESSIONS.size ≤ sizeLine)
    (R1_1_EXPRESSIONS : Vals [V.str "slot"] qi1_EXPRESSIONS.toList)
    (e0_EXPRESSIONS : PySem.W.nsIn K p_EXPRESSIONS "number" = some (some (.ref pp0_EXPRESSIONS)))
    (eq0_EXPRESSIONS : K.lookup pp0_EXPRESSIONS = some ⟨.type "tuple", qd0_EXPRESSIONS, .seq qi0_EXPRESSIONS qn0_EXPRESSIONS, qs0_EXPRESSIONS⟩)
    (z_0_EXPRESSIONS : qi0_EXPRESSIONS.size ≤ sizeLine)
    (R1_0_EXPRESSIONS : Vals [V.str "word"] qi0_EXPRESSIONS.toList)
    (b_all : PySem.W.nsIn K mainGlobals "all" = some none)
    (b_bool : PySem.W.nsIn K mainGlobals "bool" = some none)
    (b_enumerate : PySem.W.nsIn K mainGlobals "enumerate" = some none)
    (b_int : PySem.W.nsIn K mainGlobals "int" = some none)
    (b_isinstance : PySem.W.nsIn K mainGlobals "isinstance" = some none)
    (b_len : PySem.W.nsIn K mainGlobals "len" = some none)
    (b_list : PySem.W.nsIn K mainGlobals "list" = some none)
    (b_max : PySem.W.nsIn K mainGlobals "max" = some none)
    (b_min : PySem.W.nsIn K mainGlobals "min" = some none)
    (b_range : PySem.W.nsIn K mainGlobals "range" = some none)
    (b_str : PySem.W.nsIn K mainGlobals "str" = some none)
    (b_tuple : PySem.W.nsIn K mainGlobals "tuple" = some none)
    (b_zip : PySem.W.nsIn K mainGlobals "zip" = some none) :
    ∃ (fd : FuncData) (Cl : Nat → Addr), (∀ (s : Shared) (v : Value), BindsTo s fd ⟨[v], []⟩ [("_law_script", v)]) ∧ ∀ base : Heap, K.In base → base.Ns mainGlobals mg → FnOk l.prog w K mg base CX0 85 fa fd ["_law_script"] (spM K Cl 1 m_law) := by
  have e : f_law = fa := by
    have z := (PySem.W.mg_of X G a_law).symm.trans hfa
    injection z with z
    injection z
  subst e
  let T : Tx w K mg (fun n => [0, 0, 0, 0, 0, 0, 0, 0, 0, C_Rules].getD n 0) := {
    a_L_bag := f_L_bag,
    d_L_bag := _,
    F_L_bag := fun_mk (st := s_L_bag) l_L_bag c_L_bag k_L_bag,
    g_L_bag := PySem.W.mg_of X G a_L_bag,
    a_L_draw := f_L_draw,
    d_L_draw := _,
    F_L_draw := fun_mk (st := s_L_draw) l_L_draw c_L_draw k_L_draw,
    g_L_draw := PySem.W.mg_of X G a_L_draw,
    a_L_one := f_L_one,
    d_L_one := _,
    F_L_one := fun_mk (st := s_L_one) l_L_one c_L_one k_L_one,
    g_L_one := PySem.W.mg_of X G a_L_one,
    a_L_c_e := f_L_c_e,
    d_L_c_e := _,
    F_L_c_e := fun_mk (st := s_L_c_e) l_L_c_e c_L_c_e k_L_c_e,
    g_L_c_e := PySem.W.mg_of X G a_L_c_e,
    a_L_c_args := f_L_c_args,
    d_L_c_args := _,
    F_L_c_args := fun_mk (st := s_L_c_args) l_L_c_args c_L_c_args k_L_c_args,
    g_L_c_args := PySem.W.mg_of X G a_L_c_args,
    a_L_c_body := f_L_c_body,
    d_L_c_body := _,
    F_L_c_body := fun_mk (st := s_L_c_body) l_L_c_body c_L_c_body k_L_c_body,
    g_L_c_body := PySem.W.mg_of X G a_L_c_body,
    a_L_c_s := f_L_c_s,
    d_L_c_s := _,
    F_L_c_s := fun_mk (st := s_L_c_s) l_L_c_s c_L_c_s k_L_c_s,
    g_L_c_s := PySem.W.mg_of X G a_L_c_s,
    a_L_c_function := f_L_c_function,
    d_L_c_function := _,
    F_L_c_function := fun_mk (st := s_L_c_function) l_L_c_function c_L_c_function k_L_c_function,
    g_L_c_function := PySem.W.mg_of X G a_L_c_function,
    a_L_checked := f_L_checked,
    d_L_checked := _,
    F_L_checked := fun_mk (st := s_L_checked) l_L_checked c_L_checked k_L_checked,
    g_L_checked := PySem.W.mg_of X G a_L_checked,
    a_is_row := f_is_row,
    d_is_row := _,
    F_is_row := fun_mk (st := s_is_row) l_is_row c_is_row k_is_row,
    g_is_row := PySem.W.mg_of X G a_is_row,
    a_is_list := f_is_list,
    d_is_list := _,
    F_is_list := fun_mk (st := s_is_list) l_is_list c_is_list k_is_list,
    g_is_list := PySem.W.mg_of X G a_is_list,
    a_is_integer := f_is_integer,
    d_is_integer := _,
    F_is_integer := fun_mk (st := s_is_integer) l_is_integer c_is_integer k_is_integer,
    g_is_integer := PySem.W.mg_of X G a_is_integer,
    a_is_number := f_is_number,
    d_is_number := _,
    F_is_number := fun_mk (st := s_is_number) l_is_number c_is_number k_is_number,
    g_is_number := PySem.W.mg_of X G a_is_number,
    a_starts_with_string := f_starts_with_string,
    d_starts_with_string := _,
    F_starts_with_string := fun_mk (st := s_starts_with_string) l_starts_with_string c_starts_with_string k_starts_with_string,
    g_starts_with_string := PySem.W.mg_of X G a_starts_with_string,
    a_is_word := f_is_word,
    d_is_word := _,
    F_is_word := fun_mk (st := s_is_word) l_is_word c_is_word k_is_word,
    g_is_word := PySem.W.mg_of X G a_is_word,
    a_is_leaf := f_is_leaf,
    d_is_leaf := _,
    F_is_leaf := fun_mk (st := s_is_leaf) l_is_leaf c_is_leaf k_is_leaf,
    g_is_leaf := PySem.W.mg_of X G a_is_leaf,
    a_is_body := f_is_body,
    d_is_body := _,
    F_is_body := fun_mk (st := s_is_body) l_is_body c_is_body k_is_body,
    g_is_body := PySem.W.mg_of X G a_is_body,
    a_is_statement := f_is_statement,
    d_is_statement := _,
    F_is_statement := fun_mk (st := s_is_statement) l_is_statement c_is_statement k_is_statement,
    g_is_statement := PySem.W.mg_of X G a_is_statement,
    a_is_part := f_is_part,
    d_is_part := _,
    F_is_part := fun_mk (st := s_is_part) l_is_part c_is_part k_is_part,
    g_is_part := PySem.W.mg_of X G a_is_part,
    a_is_expression := f_is_expression,
    d_is_expression := _,
    F_is_expression := fun_mk (st := s_is_expression) l_is_expression c_is_expression k_is_expression,
    g_is_expression := PySem.W.mg_of X G a_is_expression,
    a_is_function := f_is_function,
    d_is_function := _,
    F_is_function := fun_mk (st := s_is_function) l_is_function c_is_function k_is_function,
    g_is_function := PySem.W.mg_of X G a_is_function,
    a_is_shaped := f_is_shaped,
    d_is_shaped := _,
    F_is_shaped := fun_mk (st := s_is_shaped) l_is_shaped c_is_shaped k_is_shaped,
    g_is_shaped := PySem.W.mg_of X G a_is_shaped,
    a_Rules_value := f_Rules_value,
    d_Rules_value := _,
    F_Rules_value := fun_mk (st := s_Rules_value) l_Rules_value c_Rules_value k_Rules_value,
    m_Rules_value := ⟨a_Rules_value, i_Rules_value, k_Rules_value⟩,
    a_Rules_called := f_Rules_called,
    d_Rules_called := _,
    F_Rules_called := fun_mk (st := s_Rules_called) l_Rules_called c_Rules_called k_Rules_called,
    m_Rules_called := ⟨a_Rules_called, i_Rules_called, k_Rules_called⟩,
    a_Rules_slot := f_Rules_slot,
    d_Rules_slot := _,
    F_Rules_slot := fun_mk (st := s_Rules_slot) l_Rules_slot c_Rules_slot k_Rules_slot,
    m_Rules_slot := ⟨a_Rules_slot, i_Rules_slot, k_Rules_slot⟩,
    a_Rules_body := f_Rules_body,
    d_Rules_body := _,
    F_Rules_body := fun_mk (st := s_Rules_body) l_Rules_body c_Rules_body k_Rules_body,
    m_Rules_body := ⟨a_Rules_body, i_Rules_body, k_Rules_body⟩,
    a_Rules_statement := f_Rules_statement,
    d_Rules_statement := _,
    F_Rules_statement := fun_mk (st := s_Rules_statement) l_Rules_statement c_Rules_statement k_Rules_statement,
    m_Rules_statement := ⟨a_Rules_statement, i_Rules_statement, k_Rules_statement⟩,
    a_Rules_hold := f_Rules_hold,
    d_Rules_hold := _,
    F_Rules_hold := fun_mk (st := s_Rules_hold) l_Rules_hold c_Rules_hold k_Rules_hold,
    m_Rules_hold := ⟨a_Rules_hold, i_Rules_hold, k_Rules_hold⟩,
    a_Rules_init := f_Rules_init,
    d_Rules_init := _,
    F_Rules_init := fun_mk (st := s_Rules_init) l_Rules_init c_Rules_init k_Rules_init,
    M_Rules := ⟨mk_Rules, a_Rules_init, i_Rules_init, kc_Rules⟩,
    a_is_checked := f_is_checked,
    d_is_checked := _,
    F_is_checked := fun_mk (st := s_is_checked) l_is_checked c_is_checked k_is_checked,
    g_is_checked := PySem.W.mg_of X G a_is_checked,
    a_L_large := f_L_large,
    d_L_large := _,
    F_L_large := fun_mk (st := s_L_large) l_L_large c_L_large k_L_large,
    g_L_large := PySem.W.mg_of X G a_L_large,
    a_L_spoilt := f_L_spoilt,
    d_L_spoilt := _,
    F_L_spoilt := fun_mk (st := s_L_spoilt) l_L_spoilt c_L_spoilt k_L_spoilt,
    g_L_spoilt := PySem.W.mg_of X G a_L_spoilt,
    a_L_odd := f_L_odd,
    d_L_odd := _,
    F_L_odd := fun_mk (st := s_L_odd) l_L_odd c_L_odd k_L_odd,
    g_L_odd := PySem.W.mg_of X G a_L_odd,
    a_L_is_int := f_L_is_int,
    d_L_is_int := _,
    F_L_is_int := fun_mk (st := s_L_is_int) l_L_is_int c_L_is_int k_L_is_int,
    g_L_is_int := PySem.W.mg_of X G a_L_is_int,
    a_L_shape := f_L_shape,
    d_L_shape := _,
    F_L_shape := fun_mk (st := s_L_shape) l_L_shape c_L_shape k_L_shape,
    g_L_shape := PySem.W.mg_of X G a_L_shape,
    a_L_is_part := f_L_is_part,
    d_L_is_part := _,
    F_L_is_part := fun_mk (st := s_L_is_part) l_L_is_part c_L_is_part k_L_is_part,
    g_L_is_part := PySem.W.mg_of X G a_L_is_part,
    a_L_is_node := f_L_is_node,
    d_L_is_node := _,
    F_L_is_node := fun_mk (st := s_L_is_node) l_L_is_node c_L_is_node k_L_is_node,
    g_L_is_node := PySem.W.mg_of X G a_L_is_node,
    a_L_called := f_L_called,
    d_L_called := _,
    F_L_called := fun_mk (st := s_L_called) l_L_called c_L_called k_L_called,
    g_L_called := PySem.W.mg_of X G a_L_called,
    a_L_e_holds := f_L_e_holds,
    d_L_e_holds := _,
    F_L_e_holds := fun_mk (st := s_L_e_holds) l_L_e_holds c_L_e_holds k_L_e_holds,
    g_L_e_holds := PySem.W.mg_of X G a_L_e_holds,
    a_L_b_holds := f_L_b_holds,
    d_L_b_holds := _,
    F_L_b_holds := fun_mk (st := s_L_b_holds) l_L_b_holds c_L_b_holds k_L_b_holds,
    g_L_b_holds := PySem.W.mg_of X G a_L_b_holds,
    a_L_s_holds := f_L_s_holds,
    d_L_s_holds := _,
    F_L_s_holds := fun_mk (st := s_L_s_holds) l_L_s_holds c_L_s_holds k_L_s_holds,
    g_L_s_holds := PySem.W.mg_of X G a_L_s_holds,
    a_L_f_holds := f_L_f_holds,
    d_L_f_holds := _,
    F_L_f_holds := fun_mk (st := s_L_f_holds) l_L_f_holds c_L_f_holds k_L_f_holds,
    g_L_f_holds := PySem.W.mg_of X G a_L_f_holds,
    a_L_is_checked := f_L_is_checked,
    d_L_is_checked := _,
    F_L_is_checked := fun_mk (st := s_L_is_checked) l_L_is_checked c_L_is_checked k_L_is_checked,
    g_L_is_checked := PySem.W.mg_of X G a_L_is_checked,
    a_law := f_law,
    d_law := _,
    F_law := fun_mk (st := s_law) l_law c_law k_law,
    g_law := PySem.W.mg_of X G a_law,
    k_Rules := ⟨pg_Rules, hd_Rules, po_Rules, sa_Rules⟩,
    g_Rules := PySem.W.mg_of X G aC_Rules,
    n_Rules__open := n_Rules__open,
    n_Rules__sizes := n_Rules__sizes,
    n_Rules__params := n_Rules__params,
    n_Rules__next := n_Rules__next,
    n_Rules__may_give := n_Rules__may_give,
    n_Rules__function := n_Rules__function,
    c_MOST_WORD := ⟨_, .int 65535, PySem.W.mg_of X G v_MOST_WORD, ⟨_, rfl⟩, fun _ _ => .int _⟩,
    c_SIGNS := ⟨_, .ref p_SIGNS, PySem.W.mg_of X G v_SIGNS, rfl, fun _ _ => .tup (.inr ⟨_, qi_SIGNS, qn_SIGNS, q_SIGNS, rfl, rfl, z_SIGNS, r_SIGNS⟩) (.cons (.str _) (.cons (.str _) (.cons (.str _) (.cons (.str _) (.cons (.str _) (.cons (.str _) (.cons (.str _) (.cons (.str _) (.cons (.str _) (.cons (.str _) (.cons (.str _) RVs.nil)))))))))))⟩,
    c_MOST_NESTED := ⟨_, .int 12, PySem.W.mg_of X G v_MOST_NESTED, ⟨_, rfl⟩, fun _ _ => .int _⟩,
    c_MOST_PARAMS := ⟨_, .int 4, PySem.W.mg_of X G v_MOST_PARAMS, ⟨_, rfl⟩, fun _ _ => .int _⟩,
    c_MOST_TABLES := ⟨_, .int 8, PySem.W.mg_of X G v_MOST_TABLES, ⟨_, rfl⟩, fun _ _ => .int _⟩,
    c_MOST_FUNCTIONS := ⟨_, .int 8, PySem.W.mg_of X G v_MOST_FUNCTIONS, ⟨_, rfl⟩, fun _ _ => .int _⟩,
    c_MOST_SIZE := ⟨_, .int 64, PySem.W.mg_of X G v_MOST_SIZE, ⟨_, rfl⟩, fun _ _ => .int _⟩,
    aD_STATEMENTS := p_STATEMENTS,
    D_STATEMENTS := (KDw.ci (KDw.ci (KDw.ci (KDw.ci (KDw.ci (KDw.ci (KDw.ci (KDw.ci (KDw.cn (KDw.cn (KDw.cn (KDw.cn (KDw.cn (KDw.cn (KDw.cn (KDw.cn (KDw.cn (KDw.cn (KDw.cn (KDw.cn (KDw.cn (KDw.cn (KDw.cn (KDw.cn (KDw.cn (KDw.cn (KDw.cn (KDw.cn (KDw.cn (KDw.cn (KDw.cn (KDw.cn (KDw.cn (KDw.nil ⟨q_STATEMENTS, kl_STATEMENTS, lo_STATEMENTS⟩) e32_STATEMENTS) e31_STATEMENTS) e30_STATEMENTS) e29_STATEMENTS) e28_STATEMENTS) e27_STATEMENTS) e26_STATEMENTS) e25_STATEMENTS) e24_STATEMENTS) e23_STATEMENTS) e22_STATEMENTS) e21_STATEMENTS) e20_STATEMENTS) e19_STATEMENTS) e18_STATEMENTS) e17_STATEMENTS) e16_STATEMENTS) e15_STATEMENTS) e14_STATEMENTS) e13_STATEMENTS) e12_STATEMENTS) e11_STATEMENTS) e10_STATEMENTS) e9_STATEMENTS) e8_STATEMENTS) e7_STATEMENTS (CV.tup eq7_STATEMENTS rfl rfl z_7_STATEMENTS R2_7_STATEMENTS (fun _ _ => (.cons (.str _) (.cons (.str _) RVs.nil))))) e6_STATEMENTS (CV.tup eq6_STATEMENTS rfl rfl z_6_STATEMENTS R1_6_STATEMENTS (fun _ _ => (.cons (.str _) RVs.nil)))) e5_STATEMENTS (CV.tup eq5_STATEMENTS rfl rfl z_5_STATEMENTS R1_5_STATEMENTS (fun _ _ => (.cons (.str _) RVs.nil)))) e4_STATEMENTS (CV.tup eq4_STATEMENTS rfl rfl z_4_STATEMENTS R2_4_STATEMENTS (fun _ _ => (.cons (.str _) (.cons (.str _) RVs.nil))))) e3_STATEMENTS (CV.tup eq3_STATEMENTS rfl rfl z_3_STATEMENTS R3_3_STATEMENTS (fun _ _ => (.cons (.str _) (.cons (.str _) (.cons (.str _) RVs.nil)))))) e2_STATEMENTS (CV.tup eq2_STATEMENTS rfl rfl z_2_STATEMENTS R3_2_STATEMENTS (fun _ _ => (.cons (.str _) (.cons (.str _) (.cons (.str _) RVs.nil)))))) e1_STATEMENTS (CV.tup eq1_STATEMENTS rfl rfl z_1_STATEMENTS R2_1_STATEMENTS (fun _ _ => (.cons (.str _) (.cons (.str _) RVs.nil))))) e0_STATEMENTS (CV.tup eq0_STATEMENTS rfl rfl z_0_STATEMENTS R2_0_STATEMENTS (fun _ _ => (.cons (.str _) (.cons (.str _) RVs.nil))))),
    gD_STATEMENTS := PySem.W.mg_of X G v_STATEMENTS,
    aD_EXPRESSIONS := p_EXPRESSIONS,
    D_EXPRESSIONS := (KDw.ci (KDw.ci (KDw.ci (KDw.ci (KDw.ci (KDw.ci (KDw.ci (KDw.ci (KDw.ci (KDw.ci (KDw.cn (KDw.cn (KDw.cn (KDw.cn (KDw.cn (KDw.cn (KDw.cn (KDw.cn (KDw.cn (KDw.cn (KDw.cn (KDw.cn (KDw.cn (KDw.cn (KDw.cn (KDw.cn (KDw.cn (KDw.cn (KDw.cn (KDw.cn (KDw.cn (KDw.cn (KDw.cn (KDw.nil ⟨q_EXPRESSIONS, kl_EXPRESSIONS, lo_EXPRESSIONS⟩) e32_EXPRESSIONS) e31_EXPRESSIONS) e30_EXPRESSIONS) e29_EXPRESSIONS) e28_EXPRESSIONS) e27_EXPRESSIONS) e26_EXPRESSIONS) e25_EXPRESSIONS) e24_EXPRESSIONS) e23_EXPRESSIONS) e22_EXPRESSIONS) e21_EXPRESSIONS) e20_EXPRESSIONS) e19_EXPRESSIONS) e18_EXPRESSIONS) e17_EXPRESSIONS) e16_EXPRESSIONS) e15_EXPRESSIONS) e14_EXPRESSIONS) e13_EXPRESSIONS) e12_EXPRESSIONS) e11_EXPRESSIONS) e10_EXPRESSIONS) e9_EXPRESSIONS (CV.tup eq9_EXPRESSIONS rfl rfl z_9_EXPRESSIONS R2_9_EXPRESSIONS (fun _ _ => (.cons (.str _) (.cons (.str _) RVs.nil))))) e8_EXPRESSIONS (CV.tup eq8_EXPRESSIONS rfl rfl z_8_EXPRESSIONS R2_8_EXPRESSIONS (fun _ _ => (.cons (.str _) (.cons (.str _) RVs.nil))))) e7_EXPRESSIONS (CV.tup eq7_EXPRESSIONS rfl rfl z_7_EXPRESSIONS R3_7_EXPRESSIONS (fun _ _ => (.cons (.str _) (.cons (.str _) (.cons (.str _) RVs.nil)))))) e6_EXPRESSIONS (CV.tup eq6_EXPRESSIONS rfl rfl z_6_EXPRESSIONS R1_6_EXPRESSIONS (fun _ _ => (.cons (.str _) RVs.nil)))) e5_EXPRESSIONS (CV.tup eq5_EXPRESSIONS rfl rfl z_5_EXPRESSIONS R0_5_EXPRESSIONS (fun _ _ => RVs.nil))) e4_EXPRESSIONS (CV.tup eq4_EXPRESSIONS rfl rfl z_4_EXPRESSIONS R1_4_EXPRESSIONS (fun _ _ => (.cons (.str _) RVs.nil)))) e3_EXPRESSIONS (CV.tup eq3_EXPRESSIONS rfl rfl z_3_EXPRESSIONS R2_3_EXPRESSIONS (fun _ _ => (.cons (.str _) (.cons (.str _) RVs.nil))))) e2_EXPRESSIONS (CV.tup eq2_EXPRESSIONS rfl rfl z_2_EXPRESSIONS R2_2_EXPRESSIONS (fun _ _ => (.cons (.str _) (.cons (.str _) RVs.nil))))) e1_EXPRESSIONS (CV.tup eq1_EXPRESSIONS rfl rfl z_1_EXPRESSIONS R1_1_EXPRESSIONS (fun _ _ => (.cons (.str _) RVs.nil)))) e0_EXPRESSIONS (CV.tup eq0_EXPRESSIONS rfl rfl z_0_EXPRESSIONS R1_0_EXPRESSIONS (fun _ _ => (.cons (.str _) RVs.nil)))),
    gD_EXPRESSIONS := PySem.W.mg_of X G v_EXPRESSIONS,
    b_all := PySem.W.mg_none_of X G b_all,
    b_bool := PySem.W.mg_none_of X G b_bool,
    b_enumerate := PySem.W.mg_none_of X G b_enumerate,
    b_int := PySem.W.mg_none_of X G b_int,
    b_isinstance := PySem.W.mg_none_of X G b_isinstance,
    b_len := PySem.W.mg_none_of X G b_len,
    b_list := PySem.W.mg_none_of X G b_list,
    b_max := PySem.W.mg_none_of X G b_max,
    b_min := PySem.W.mg_none_of X G b_min,
    b_range := PySem.W.mg_none_of X G b_range,
    b_str := PySem.W.mg_none_of X G b_str,
    b_tuple := PySem.W.mg_none_of X G b_tuple,
    b_zip := PySem.W.mg_none_of X G b_zip }
  exact ⟨_, _, fun s v => .of_eq rfl, fun base _ _ => ok_law T⟩
theorem walk {l : PySem.W.OpenLaw} {q : Program} {loose : List Str} {XP : (Str → Option Value) → Heap → Prop} {YP : World → Heap → Prop} {d : DefRec} {K : Params → PySem.W.Frag} (hn : l.most = some 63) (hdf : d.params.defaults = [])
    (hY : ∀ (w : World) (h : Heap), YP w h → (K w.params).In h)
    (hlaw : ∀ ns : List Int, ns.length ≤ 63 → (∀ z ∈ ns, Builtin.Int.intBits z ≤ 1048576) → ∃ st, m_law [.xst (ns.map W.int)] [] = .ok (.bl true) st)
    (F : ∀ (w : World) (mg : Str → Option Value) (fa : Addr) (h : Heap), (K w.params).In h → h.Ns mainGlobals mg → mg d.name = some (.ref fa) →
      ∃ (fd : FuncData) (Cl : Nat → Addr), (∀ (s : Shared) (u : Value), BindsTo s fd ⟨[u], []⟩ [("_law_script", u)]) ∧ ∀ base : Heap, (K w.params).In base → base.Ns mainGlobals mg → FnOk l.prog w (K w.params) mg base CX0 85 fa fd ["_law_script"] (spM (K w.params) Cl 1 m_law)) :
    PySem.W.WalkO q loose XP YP l.row.toRowW d [] (fun f vs => PySem.call f vs) :=
  L2.walk_ofB (n := 63) (k := 85) (x := "_law_script") (CX := fun _ => CX0) (sp := fun w vs H Q E => ∀ Cl, spM (K w.params) Cl 1 m_law vs H Q E) hn (by decide) hdf ⟨rfl, by decide, by decide⟩ hY
    (fun w mg fa h X G hm => by
      obtain ⟨fd, Cl, b, f⟩ := F w mg fa h X G hm
      exact ⟨fd, b, fun base h1 h2 => (f base h1 h2).imp fun vs H Q E q => q Cl⟩)
    (fun w H a ns hl hb hO hS Cl => law_sp hO hS (hlaw ns hl hb)) (fun _ _ _ _ _ z => z)
end Gn

open PySem PySem.W PyProof.Rows
set_option maxRecDepth 100000 in
set_option maxHeartbeats 0 in
theorem PySem.Challenge.cw_onestepcourt_k34_checked_trees_holds : PySem.Challenge.rw_onestepcourt_k34_checked_trees.Holds := by
  w_on; o_law; k_head; (case hw => w_witness2)
  k_fill
  refine Gn.walk (l := PySem.Challenge.rw_onestepcourt_k34_checked_trees) rfl rfl (fun w h Y => PySem.W.kIn_of Y) Gn.law_true ?F
  case F =>
    intro w mg fa h KX G hmg
    refine' Gn.all_mk KX G hmg ?aC_Rules ?a_L_bag ?l_L_bag ?c_L_bag ?k_L_bag ?a_L_draw ?l_L_draw ?c_L_draw ?k_L_draw ?a_L_one ?l_L_one ?c_L_one ?k_L_one ?a_L_c_e ?l_L_c_e ?c_L_c_e ?k_L_c_e ?a_L_c_args ?l_L_c_args ?c_L_c_args ?k_L_c_args ?a_L_c_body ?l_L_c_body ?c_L_c_body ?k_L_c_body ?a_L_c_s ?l_L_c_s ?c_L_c_s ?k_L_c_s ?a_L_c_function ?l_L_c_function ?c_L_c_function ?k_L_c_function ?a_L_checked ?l_L_checked ?c_L_checked ?k_L_checked ?a_is_row ?l_is_row ?c_is_row ?k_is_row ?a_is_list ?l_is_list ?c_is_list ?k_is_list ?a_is_integer ?l_is_integer ?c_is_integer ?k_is_integer ?a_is_number ?l_is_number ?c_is_number ?k_is_number ?a_starts_with_string ?l_starts_with_string ?c_starts_with_string ?k_starts_with_string ?a_is_word ?l_is_word ?c_is_word ?k_is_word ?a_is_leaf ?l_is_leaf ?c_is_leaf ?k_is_leaf ?a_is_body ?l_is_body ?c_is_body ?k_is_body ?a_is_statement ?l_is_statement ?c_is_statement ?k_is_statement ?a_is_part ?l_is_part ?c_is_part ?k_is_part ?a_is_expression ?l_is_expression ?c_is_expression ?k_is_expression ?a_is_function ?l_is_function ?c_is_function ?k_is_function ?a_is_shaped ?l_is_shaped ?c_is_shaped ?k_is_shaped ?a_Rules_value ?i_Rules_value ?l_Rules_value ?c_Rules_value ?k_Rules_value ?a_Rules_called ?i_Rules_called ?l_Rules_called ?c_Rules_called ?k_Rules_called ?a_Rules_slot ?i_Rules_slot ?l_Rules_slot ?c_Rules_slot ?k_Rules_slot ?a_Rules_body ?i_Rules_body ?l_Rules_body ?c_Rules_body ?k_Rules_body ?a_Rules_statement ?i_Rules_statement ?l_Rules_statement ?c_Rules_statement ?k_Rules_statement ?a_Rules_hold ?i_Rules_hold ?l_Rules_hold ?c_Rules_hold ?k_Rules_hold ?a_Rules_init ?i_Rules_init ?l_Rules_init ?c_Rules_init ?k_Rules_init ?a_is_checked ?l_is_checked ?c_is_checked ?k_is_checked ?a_L_large ?l_L_large ?c_L_large ?k_L_large ?a_L_spoilt ?l_L_spoilt ?c_L_spoilt ?k_L_spoilt ?a_L_odd ?l_L_odd ?c_L_odd ?k_L_odd ?a_L_is_int ?l_L_is_int ?c_L_is_int ?k_L_is_int ?a_L_shape ?l_L_shape ?c_L_shape ?k_L_shape ?a_L_is_part ?l_L_is_part ?c_L_is_part ?k_L_is_part ?a_L_is_node ?l_L_is_node ?c_L_is_node ?k_L_is_node ?a_L_called ?l_L_called ?c_L_called ?k_L_called ?a_L_e_holds ?l_L_e_holds ?c_L_e_holds ?k_L_e_holds ?a_L_b_holds ?l_L_b_holds ?c_L_b_holds ?k_L_b_holds ?a_L_s_holds ?l_L_s_holds ?c_L_s_holds ?k_L_s_holds ?a_L_f_holds ?l_L_f_holds ?c_L_f_holds ?k_L_f_holds ?a_L_is_checked ?l_L_is_checked ?c_L_is_checked ?k_L_is_checked ?a_law ?l_law ?c_law ?k_law ?pg_Rules ?hd_Rules ?po_Rules ?sa_Rules ?mk_Rules ?kc_Rules ?n_Rules__open ?n_Rules__sizes ?n_Rules__params ?n_Rules__next ?n_Rules__may_give ?n_Rules__function ?v_MOST_WORD ?v_SIGNS ?q_SIGNS ?z_SIGNS ?r_SIGNS ?v_MOST_NESTED ?v_MOST_PARAMS ?v_MOST_TABLES ?v_MOST_FUNCTIONS ?v_MOST_SIZE ?v_STATEMENTS ?q_STATEMENTS ?kl_STATEMENTS ?lo_STATEMENTS ?e32_STATEMENTS ?e31_STATEMENTS ?e30_STATEMENTS ?e29_STATEMENTS ?e28_STATEMENTS ?e27_STATEMENTS ?e26_STATEMENTS ?e25_STATEMENTS ?e24_STATEMENTS ?e23_STATEMENTS ?e22_STATEMENTS ?e21_STATEMENTS ?e20_STATEMENTS ?e19_STATEMENTS ?e18_STATEMENTS ?e17_STATEMENTS ?e16_STATEMENTS ?e15_STATEMENTS ?e14_STATEMENTS ?e13_STATEMENTS ?e12_STATEMENTS ?e11_STATEMENTS ?e10_STATEMENTS ?e9_STATEMENTS ?e8_STATEMENTS ?e7_STATEMENTS ?eq7_STATEMENTS ?z_7_STATEMENTS ?R2_7_STATEMENTS ?e6_STATEMENTS ?eq6_STATEMENTS ?z_6_STATEMENTS ?R1_6_STATEMENTS ?e5_STATEMENTS ?eq5_STATEMENTS ?z_5_STATEMENTS ?R1_5_STATEMENTS ?e4_STATEMENTS ?eq4_STATEMENTS ?z_4_STATEMENTS ?R2_4_STATEMENTS ?e3_STATEMENTS ?eq3_STATEMENTS ?z_3_STATEMENTS ?R3_3_STATEMENTS ?e2_STATEMENTS ?eq2_STATEMENTS ?z_2_STATEMENTS ?R3_2_STATEMENTS ?e1_STATEMENTS ?eq1_STATEMENTS ?z_1_STATEMENTS ?R2_1_STATEMENTS ?e0_STATEMENTS ?eq0_STATEMENTS ?z_0_STATEMENTS ?R2_0_STATEMENTS ?v_EXPRESSIONS ?q_EXPRESSIONS ?kl_EXPRESSIONS ?lo_EXPRESSIONS ?e32_EXPRESSIONS ?e31_EXPRESSIONS ?e30_EXPRESSIONS ?e29_EXPRESSIONS ?e28_EXPRESSIONS ?e27_EXPRESSIONS ?e26_EXPRESSIONS ?e25_EXPRESSIONS ?e24_EXPRESSIONS ?e23_EXPRESSIONS ?e22_EXPRESSIONS ?e21_EXPRESSIONS ?e20_EXPRESSIONS ?e19_EXPRESSIONS ?e18_EXPRESSIONS ?e17_EXPRESSIONS ?e16_EXPRESSIONS ?e15_EXPRESSIONS ?e14_EXPRESSIONS ?e13_EXPRESSIONS ?e12_EXPRESSIONS ?e11_EXPRESSIONS ?e10_EXPRESSIONS ?e9_EXPRESSIONS ?eq9_EXPRESSIONS ?z_9_EXPRESSIONS ?R2_9_EXPRESSIONS ?e8_EXPRESSIONS ?eq8_EXPRESSIONS ?z_8_EXPRESSIONS ?R2_8_EXPRESSIONS ?e7_EXPRESSIONS ?eq7_EXPRESSIONS ?z_7_EXPRESSIONS ?R3_7_EXPRESSIONS ?e6_EXPRESSIONS ?eq6_EXPRESSIONS ?z_6_EXPRESSIONS ?R1_6_EXPRESSIONS ?e5_EXPRESSIONS ?eq5_EXPRESSIONS ?z_5_EXPRESSIONS ?R0_5_EXPRESSIONS ?e4_EXPRESSIONS ?eq4_EXPRESSIONS ?z_4_EXPRESSIONS ?R1_4_EXPRESSIONS ?e3_EXPRESSIONS ?eq3_EXPRESSIONS ?z_3_EXPRESSIONS ?R2_3_EXPRESSIONS ?e2_EXPRESSIONS ?eq2_EXPRESSIONS ?z_2_EXPRESSIONS ?R2_2_EXPRESSIONS ?e1_EXPRESSIONS ?eq1_EXPRESSIONS ?z_1_EXPRESSIONS ?R1_1_EXPRESSIONS ?e0_EXPRESSIONS ?eq0_EXPRESSIONS ?z_0_EXPRESSIONS ?R1_0_EXPRESSIONS ?b_all ?b_bool ?b_enumerate ?b_int ?b_isinstance ?b_len ?b_list ?b_max ?b_min ?b_range ?b_str ?b_tuple ?b_zip
    (case aC_Rules => k_is); (case a_L_bag => k_is); (case l_L_bag => k_is); (case c_L_bag => k_is); (case k_L_bag => k_is); (case a_L_draw => k_is)
    (case l_L_draw => k_is); (case c_L_draw => k_is); (case k_L_draw => k_is); (case a_L_one => k_is); (case l_L_one => k_is); (case c_L_one => k_is)
    (case k_L_one => k_is); (case a_L_c_e => k_is); (case l_L_c_e => k_is); (case c_L_c_e => k_is); (case k_L_c_e => k_is); (case a_L_c_args => k_is)
    (case l_L_c_args => k_is); (case c_L_c_args => k_is); (case k_L_c_args => k_is); (case a_L_c_body => k_is); (case l_L_c_body => k_is); (case c_L_c_body => k_is)
    (case k_L_c_body => k_is); (case a_L_c_s => k_is); (case l_L_c_s => k_is); (case c_L_c_s => k_is); (case k_L_c_s => k_is); (case a_L_c_function => k_is)
    (case l_L_c_function => k_is); (case c_L_c_function => k_is); (case k_L_c_function => k_is); (case a_L_checked => k_is); (case l_L_checked => k_is); (case c_L_checked => k_is)
    (case k_L_checked => k_is); (case a_is_row => k_is); (case l_is_row => k_is); (case c_is_row => k_is); (case k_is_row => k_is); (case a_is_list => k_is)
    (case l_is_list => k_is); (case c_is_list => k_is); (case k_is_list => k_is); (case a_is_integer => k_is); (case l_is_integer => k_is); (case c_is_integer => k_is)
    (case k_is_integer => k_is); (case a_is_number => k_is); (case l_is_number => k_is); (case c_is_number => k_is); (case k_is_number => k_is); (case a_starts_with_string => k_is)
    (case l_starts_with_string => k_is); (case c_starts_with_string => k_is); (case k_starts_with_string => k_is); (case a_is_word => k_is); (case l_is_word => k_is); (case c_is_word => k_is)
    (case k_is_word => k_is); (case a_is_leaf => k_is); (case l_is_leaf => k_is); (case c_is_leaf => k_is); (case k_is_leaf => k_is); (case a_is_body => k_is)
    (case l_is_body => k_is); (case c_is_body => k_is); (case k_is_body => k_is); (case a_is_statement => k_is); (case l_is_statement => k_is); (case c_is_statement => k_is)
    (case k_is_statement => k_is); (case a_is_part => k_is); (case l_is_part => k_is); (case c_is_part => k_is); (case k_is_part => k_is); (case a_is_expression => k_is)
    (case l_is_expression => k_is); (case c_is_expression => k_is); (case k_is_expression => k_is); (case a_is_function => k_is); (case l_is_function => k_is); (case c_is_function => k_is)
    (case k_is_function => k_is); (case a_is_shaped => k_is); (case l_is_shaped => k_is); (case c_is_shaped => k_is); (case k_is_shaped => k_is); (case a_Rules_value => k_is)
    (case i_Rules_value => k_is); (case l_Rules_value => k_is); (case c_Rules_value => k_is); (case k_Rules_value => k_is); (case a_Rules_called => k_is); (case i_Rules_called => k_is)
    (case l_Rules_called => k_is); (case c_Rules_called => k_is); (case k_Rules_called => k_is); (case a_Rules_slot => k_is); (case i_Rules_slot => k_is); (case l_Rules_slot => k_is)
    (case c_Rules_slot => k_is); (case k_Rules_slot => k_is); (case a_Rules_body => k_is); (case i_Rules_body => k_is); (case l_Rules_body => k_is); (case c_Rules_body => k_is)
    (case k_Rules_body => k_is); (case a_Rules_statement => k_is); (case i_Rules_statement => k_is); (case l_Rules_statement => k_is); (case c_Rules_statement => k_is); (case k_Rules_statement => k_is)
    (case a_Rules_hold => k_is); (case i_Rules_hold => k_is); (case l_Rules_hold => k_is); (case c_Rules_hold => k_is); (case k_Rules_hold => k_is); (case a_Rules_init => k_is)
    (case i_Rules_init => k_is); (case l_Rules_init => k_is); (case c_Rules_init => k_is); (case k_Rules_init => k_is); (case a_is_checked => k_is); (case l_is_checked => k_is)
    (case c_is_checked => k_is); (case k_is_checked => k_is); (case a_L_large => k_is); (case l_L_large => k_is); (case c_L_large => k_is); (case k_L_large => k_is)
    (case a_L_spoilt => k_is); (case l_L_spoilt => k_is); (case c_L_spoilt => k_is); (case k_L_spoilt => k_is); (case a_L_odd => k_is); (case l_L_odd => k_is)
    (case c_L_odd => k_is); (case k_L_odd => k_is); (case a_L_is_int => k_is); (case l_L_is_int => k_is); (case c_L_is_int => k_is); (case k_L_is_int => k_is)
    (case a_L_shape => k_is); (case l_L_shape => k_is); (case c_L_shape => k_is); (case k_L_shape => k_is); (case a_L_is_part => k_is); (case l_L_is_part => k_is)
    (case c_L_is_part => k_is); (case k_L_is_part => k_is); (case a_L_is_node => k_is); (case l_L_is_node => k_is); (case c_L_is_node => k_is); (case k_L_is_node => k_is)
    (case a_L_called => k_is); (case l_L_called => k_is); (case c_L_called => k_is); (case k_L_called => k_is); (case a_L_e_holds => k_is); (case l_L_e_holds => k_is)
    (case c_L_e_holds => k_is); (case k_L_e_holds => k_is); (case a_L_b_holds => k_is); (case l_L_b_holds => k_is); (case c_L_b_holds => k_is); (case k_L_b_holds => k_is)
    (case a_L_s_holds => k_is); (case l_L_s_holds => k_is); (case c_L_s_holds => k_is); (case k_L_s_holds => k_is); (case a_L_f_holds => k_is); (case l_L_f_holds => k_is)
    (case c_L_f_holds => k_is); (case k_L_f_holds => k_is); (case a_L_is_checked => k_is); (case l_L_is_checked => k_is); (case c_L_is_checked => k_is); (case k_L_is_checked => k_is)
    (case a_law => k_is); (case l_law => k_is); (case c_law => k_is); (case k_law => k_is); (case pg_Rules => k_is); (case hd_Rules => k_is)
    (case po_Rules => k_is); (case sa_Rules => k_is); (case mk_Rules => k_is); (case kc_Rules => k_is); (case n_Rules__open => k_is); (case n_Rules__sizes => k_is)
    (case n_Rules__params => k_is); (case n_Rules__next => k_is); (case n_Rules__may_give => k_is); (case n_Rules__function => k_is); (case v_MOST_WORD => k_is); (case v_SIGNS => k_is)
    (case q_SIGNS => k_is); (case z_SIGNS => decide); (case r_SIGNS => exact .cons ⟨_, rfl⟩ (.cons ⟨_, rfl⟩ (.cons ⟨_, rfl⟩ (.cons ⟨_, rfl⟩ (.cons ⟨_, rfl⟩ (.cons ⟨_, rfl⟩ (.cons ⟨_, rfl⟩ (.cons ⟨_, rfl⟩ (.cons ⟨_, rfl⟩ (.cons ⟨_, rfl⟩ (.cons ⟨_, rfl⟩ (.nil)))))))))))); (case v_MOST_NESTED => k_is); (case v_MOST_PARAMS => k_is); (case v_MOST_TABLES => k_is)
    (case v_MOST_FUNCTIONS => k_is); (case v_MOST_SIZE => k_is); (case v_STATEMENTS => k_is); (case q_STATEMENTS => k_is); (case kl_STATEMENTS => k_keys); (case lo_STATEMENTS => decide)
    (case e32_STATEMENTS => k_is); (case e31_STATEMENTS => k_is); (case e30_STATEMENTS => k_is); (case e29_STATEMENTS => k_is); (case e28_STATEMENTS => k_is); (case e27_STATEMENTS => k_is)
    (case e26_STATEMENTS => k_is); (case e25_STATEMENTS => k_is); (case e24_STATEMENTS => k_is); (case e23_STATEMENTS => k_is); (case e22_STATEMENTS => k_is); (case e21_STATEMENTS => k_is)
    (case e20_STATEMENTS => k_is); (case e19_STATEMENTS => k_is); (case e18_STATEMENTS => k_is); (case e17_STATEMENTS => k_is); (case e16_STATEMENTS => k_is); (case e15_STATEMENTS => k_is)
    (case e14_STATEMENTS => k_is); (case e13_STATEMENTS => k_is); (case e12_STATEMENTS => k_is); (case e11_STATEMENTS => k_is); (case e10_STATEMENTS => k_is); (case e9_STATEMENTS => k_is)
    (case e8_STATEMENTS => k_is); (case e7_STATEMENTS => k_is); (case eq7_STATEMENTS => k_is); (case z_7_STATEMENTS => decide); (case R2_7_STATEMENTS => exact .cons ⟨_, rfl⟩ (.cons ⟨_, rfl⟩ (.nil))); (case e6_STATEMENTS => k_is)
    (case eq6_STATEMENTS => k_is); (case z_6_STATEMENTS => decide); (case R1_6_STATEMENTS => exact .cons ⟨_, rfl⟩ (.nil)); (case e5_STATEMENTS => k_is); (case eq5_STATEMENTS => k_is); (case z_5_STATEMENTS => decide)
    (case R1_5_STATEMENTS => exact .cons ⟨_, rfl⟩ (.nil)); (case e4_STATEMENTS => k_is); (case eq4_STATEMENTS => k_is); (case z_4_STATEMENTS => decide); (case R2_4_STATEMENTS => exact .cons ⟨_, rfl⟩ (.cons ⟨_, rfl⟩ (.nil))); (case e3_STATEMENTS => k_is)
    (case eq3_STATEMENTS => k_is); (case z_3_STATEMENTS => decide); (case R3_3_STATEMENTS => exact .cons ⟨_, rfl⟩ (.cons ⟨_, rfl⟩ (.cons ⟨_, rfl⟩ (.nil)))); (case e2_STATEMENTS => k_is); (case eq2_STATEMENTS => k_is); (case z_2_STATEMENTS => decide)
    (case R3_2_STATEMENTS => exact .cons ⟨_, rfl⟩ (.cons ⟨_, rfl⟩ (.cons ⟨_, rfl⟩ (.nil)))); (case e1_STATEMENTS => k_is); (case eq1_STATEMENTS => k_is); (case z_1_STATEMENTS => decide); (case R2_1_STATEMENTS => exact .cons ⟨_, rfl⟩ (.cons ⟨_, rfl⟩ (.nil))); (case e0_STATEMENTS => k_is)
    (case eq0_STATEMENTS => k_is); (case z_0_STATEMENTS => decide); (case R2_0_STATEMENTS => exact .cons ⟨_, rfl⟩ (.cons ⟨_, rfl⟩ (.nil))); (case v_EXPRESSIONS => k_is); (case q_EXPRESSIONS => k_is); (case kl_EXPRESSIONS => k_keys)
    (case lo_EXPRESSIONS => decide); (case e32_EXPRESSIONS => k_is); (case e31_EXPRESSIONS => k_is); (case e30_EXPRESSIONS => k_is); (case e29_EXPRESSIONS => k_is); (case e28_EXPRESSIONS => k_is)
    (case e27_EXPRESSIONS => k_is); (case e26_EXPRESSIONS => k_is); (case e25_EXPRESSIONS => k_is); (case e24_EXPRESSIONS => k_is); (case e23_EXPRESSIONS => k_is); (case e22_EXPRESSIONS => k_is)
    (case e21_EXPRESSIONS => k_is); (case e20_EXPRESSIONS => k_is); (case e19_EXPRESSIONS => k_is); (case e18_EXPRESSIONS => k_is); (case e17_EXPRESSIONS => k_is); (case e16_EXPRESSIONS => k_is)
    (case e15_EXPRESSIONS => k_is); (case e14_EXPRESSIONS => k_is); (case e13_EXPRESSIONS => k_is); (case e12_EXPRESSIONS => k_is); (case e11_EXPRESSIONS => k_is); (case e10_EXPRESSIONS => k_is)
    (case e9_EXPRESSIONS => k_is); (case eq9_EXPRESSIONS => k_is); (case z_9_EXPRESSIONS => decide); (case R2_9_EXPRESSIONS => exact .cons ⟨_, rfl⟩ (.cons ⟨_, rfl⟩ (.nil))); (case e8_EXPRESSIONS => k_is); (case eq8_EXPRESSIONS => k_is)
    (case z_8_EXPRESSIONS => decide); (case R2_8_EXPRESSIONS => exact .cons ⟨_, rfl⟩ (.cons ⟨_, rfl⟩ (.nil))); (case e7_EXPRESSIONS => k_is); (case eq7_EXPRESSIONS => k_is); (case z_7_EXPRESSIONS => decide); (case R3_7_EXPRESSIONS => exact .cons ⟨_, rfl⟩ (.cons ⟨_, rfl⟩ (.cons ⟨_, rfl⟩ (.nil))))
    (case e6_EXPRESSIONS => k_is); (case eq6_EXPRESSIONS => k_is); (case z_6_EXPRESSIONS => decide); (case R1_6_EXPRESSIONS => exact .cons ⟨_, rfl⟩ (.nil)); (case e5_EXPRESSIONS => k_is); (case eq5_EXPRESSIONS => k_is)
    (case z_5_EXPRESSIONS => decide); (case R0_5_EXPRESSIONS => exact .nil); (case e4_EXPRESSIONS => k_is); (case eq4_EXPRESSIONS => k_is); (case z_4_EXPRESSIONS => decide); (case R1_4_EXPRESSIONS => exact .cons ⟨_, rfl⟩ (.nil))
    (case e3_EXPRESSIONS => k_is); (case eq3_EXPRESSIONS => k_is); (case z_3_EXPRESSIONS => decide); (case R2_3_EXPRESSIONS => exact .cons ⟨_, rfl⟩ (.cons ⟨_, rfl⟩ (.nil))); (case e2_EXPRESSIONS => k_is); (case eq2_EXPRESSIONS => k_is)
    (case z_2_EXPRESSIONS => decide); (case R2_2_EXPRESSIONS => exact .cons ⟨_, rfl⟩ (.cons ⟨_, rfl⟩ (.nil))); (case e1_EXPRESSIONS => k_is); (case eq1_EXPRESSIONS => k_is); (case z_1_EXPRESSIONS => decide); (case R1_1_EXPRESSIONS => exact .cons ⟨_, rfl⟩ (.nil))
    (case e0_EXPRESSIONS => k_is); (case eq0_EXPRESSIONS => k_is); (case z_0_EXPRESSIONS => decide); (case R1_0_EXPRESSIONS => exact .cons ⟨_, rfl⟩ (.nil)); (case b_all => k_is); (case b_bool => k_is)
    (case b_enumerate => k_is); (case b_int => k_is); (case b_isinstance => k_is); (case b_len => k_is); (case b_list => k_is); (case b_max => k_is)
    (case b_min => k_is); (case b_range => k_is); (case b_str => k_is); (case b_tuple => k_is); (case b_zip => k_is)
#print axioms PySem.Challenge.cw_onestepcourt_k34_checked_trees_holds
