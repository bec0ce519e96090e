import PyProof.Rows.All
import Wide.All
import OpenK.AllK
import Wide.FinOn
import HandS.ForMost
import HandS.Wide
import HandS.WideBits
import HandS.EndBits
import HandS.Deep
import HandS.Flow
import HandS.Conv
import HandS.TupAny
import HandS.TupMul
import HandS.IsInst
import HandS.Style
import HandS.Walk
import HandS.ForExc
import PyProof.Rows.ChunkLeaf
import HandS.Strs
import KE.GoesMore
import PyProof.DictMoreH
import HandS.Iter
import KE.KDictWalk
import HandS.Small
import HandS.TryOnly
import HandS.ExcIs
import HandS.ExcInit
import KE.KExcIs
import KE.KDictCopyH
import HandS.More
import KE.BitLaws
import PySem.Challenge.RW_onestepcourt_k48_turned_histories
set_option Elab.async false
set_option linter.all false
set_option maxRecDepth 100000
set_option maxHeartbeats 4000000
/-! The mirror layer, part A: values, the store, how they stand in a heap. -/
namespace Mi
open PySem L2

inductive W where
  | non | bl (b : Bool) | int (i : Int) | str (x : Str) | tup (xs : List W) | lst (xs : List W) | xst (xs : List W) | ref (i : Nat)
abbrev Fl := List (Str × W)
inductive Ob where
  | lst (xs : List W) | dK (kvs : List (Key × W)) | dT (kvs : List (List Key × W)) | ins (c : Nat) (fs : Fl) | dead
abbrev Sto := List Ob
abbrev Slo := List (Option W)
/-- where the store's objects stand; addresses that only a comprehension in progress may change -/
structure Bt where
  l : List (Option Addr)
  pr : List Addr

/-- what an evaluation comes to -/
inductive Out (α : Type) where
  | ok (a : α) (st : Sto) | exc (c : Nat) (fs : Fl) (st : Sto) | stuck
@[simp] def Out.bind {α β : Type} : Out α → (α → Sto → Out β) → Out β
  | .ok a st, f => f a st
  | .exc c fs st, _ => .exc c fs st
  | .stuck, _ => .stuck
/-- what a statement comes to -/
inductive SO where
  | nx (s : Slo) (st : Sto) | rt (w : W) (st : Sto) | bk (s : Slo) (st : Sto) | ct (s : Slo) (st : Sto) | exc (c : Nat) (fs : Fl) (st : Sto) | stuck
abbrev ME := Slo → Sto → Out W
abbrev MA := Slo → Sto → Out (List W)
abbrev MT := Slo → Sto → Out Bool
abbrev MS := Slo → Sto → SO
abbrev MF := List W → Sto → Out W

def NotIn (β : Bt) (p : Addr) : Prop := (∀ i : Nat, β.l[i]? ≠ some (some p)) ∧ p ∉ β.pr

/-- a list of the module's own top -/
def KL (K : PySem.W.Frag) (a : Addr) (xs : List V) : Prop :=
  ∃ (o : Obj) (its : Array Value) (n : Nat), K.lookup a = some o ∧ o.cls = .type "list" ∧ o.dict = none ∧ o.data = .seq its n ∧ its.size ≤ sizeLine ∧ Vals xs its.toList

mutual
inductive RV (K : PySem.W.Frag) (β : Bt) (H : Hp) : W → V → Prop
  | non : RV K β H .non .non
  | bl (b : Bool) : RV K β H (.bl b) (.bl b)
  | int (i : Int) : RV K β H (.int i) (.int i)
  | str (x : Str) : RV K β H (.str x) (.str x)
  | tup {p : Addr} {ws : List W} {vs : List V} : SqT K H p vs → RVs K β H ws vs → RV K β H (.tup ws) (.ref p)
  | lst {p : Addr} {ws : List W} {vs : List V} : H p = some (.lst vs) → NotIn β p → RVs K β H ws vs → RV K β H (.lst ws) (.ref p)
  | xst {p : Addr} {ws : List W} {vs : List V} : (KL K p vs ∨ ∃ o, H p = some (.frz o (.lst vs))) → RVs K β H ws vs → RV K β H (.xst ws) (.ref p)
  | ref {i : Nat} {a : Addr} : β.l[i]? = some (some a) → RV K β H (.ref i) (.ref a)
  | dead {i : Nat} {v : V} : β.l[i]? = some none → RV K β H (.ref i) v
inductive RVs (K : PySem.W.Frag) (β : Bt) (H : Hp) : List W → List V → Prop
  | nil : RVs K β H [] []
  | cons {w : W} {ws : List W} {v : V} {vs : List V} : RV K β H w v → RVs K β H ws vs → RVs K β H (w :: ws) (v :: vs)
end

structure Ext (K : PySem.W.Frag) (β : Bt) (H : Hp) (β' : Bt) (H' : Hp) : Prop where
  tup : ∀ p vs, SqT K H p vs → SqT K H' p vs
  lst : ∀ p vs, H p = some (.lst vs) → NotIn β p → H' p = some (.lst vs) ∧ NotIn β' p
  frz : ∀ p o u, H p = some (.frz o u) → H' p = some (.frz o u)
  live : ∀ (i : Nat) (o : Option Addr), β.l[i]? = some o → β'.l[i]? = some o ∨ β'.l[i]? = some none
  prot : ∀ p ∈ β.pr, ∀ o, H p = some o → p ∈ β'.pr ∧ H' p = some o
theorem Ext.refl (K : PySem.W.Frag) (β : Bt) (H : Hp) : Ext K β H β H := ⟨fun _ _ h => h, fun _ _ h n => ⟨h, n⟩, fun _ _ _ h => h, fun _ _ h => .inl h, fun _ hp _ h => ⟨hp, h⟩⟩
theorem Ext.trans {K : PySem.W.Frag} {β β1 β2 : Bt} {H H1 H2 : Hp} (a : Ext K β H β1 H1) (b : Ext K β1 H1 β2 H2) : Ext K β H β2 H2 where
  tup := fun p vs h => b.tup p vs (a.tup p vs h)
  lst := fun p vs h n => by
    obtain ⟨h1, n1⟩ := a.lst p vs h n
    exact b.lst p vs h1 n1
  frz := fun p o u h => b.frz p o u (a.frz p o u h)
  live := fun i o h => by
    rcases a.live i o h with h1 | h1
    · exact b.live i o h1
    · rcases b.live i _ h1 with h2 | h2
      · exact .inr h2
      · exact .inr h2
  prot := fun p hp o h => by
    obtain ⟨h1, h2⟩ := a.prot p hp o h
    exact b.prot p h1 o h2

section
variable {K : PySem.W.Frag} {β β' : Bt} {H H' : Hp}
mutual
theorem RV.ext (e : Ext K β H β' H') : ∀ {w : W} {v : V}, RV K β H w v → RV K β' H' w v
  | _, _, .non => .non
  | _, _, .bl b => .bl b
  | _, _, .int i => .int i
  | _, _, .str x => .str x
  | _, _, .tup h r => .tup (e.tup _ _ h) (RVs.ext e r)
  | _, _, .lst h n r => .lst (e.lst _ _ h n).1 (e.lst _ _ h n).2 (RVs.ext e r)
  | _, _, .xst h r => .xst (h.imp (fun x => x) fun ⟨o, x⟩ => ⟨o, e.frz _ _ _ x⟩) (RVs.ext e r)
  | _, _, .ref h => (e.live _ _ h).elim (fun x => .ref x) fun x => .dead x
  | _, _, .dead h => (e.live _ _ h).elim (fun x => .dead x) fun x => .dead x
theorem RVs.ext (e : Ext K β H β' H') : ∀ {ws : List W} {vs : List V}, RVs K β H ws vs → RVs K β' H' ws vs
  | _, _, .nil => .nil
  | _, _, .cons h r => .cons (RV.ext e h) (RVs.ext e r)
end
mutual
/-- an address less is protected -/
theorem RV.drop (hl : β'.l = β.l) (hp : ∀ p, p ∈ β'.pr → p ∈ β.pr) : ∀ {w : W} {v : V}, RV K β H w v → RV K β' H w v
  | _, _, .non => .non
  | _, _, .bl b => .bl b
  | _, _, .int i => .int i
  | _, _, .str x => .str x
  | _, _, .tup h r => .tup h (RVs.drop' hl hp r)
  | _, _, .lst h n r => .lst h ⟨fun i => by rw [hl]; exact n.1 i, fun z => n.2 (hp _ z)⟩ (RVs.drop' hl hp r)
  | _, _, .xst h r => .xst h (RVs.drop' hl hp r)
  | _, _, .ref h => .ref (by rw [hl]; exact h)
  | _, _, .dead h => .dead (by rw [hl]; exact h)
theorem RVs.drop' (hl : β'.l = β.l) (hp : ∀ p, p ∈ β'.pr → p ∈ β.pr) : ∀ {ws : List W} {vs : List V}, RVs K β H ws vs → RVs K β' H ws vs
  | _, _, .nil => .nil
  | _, _, .cons h r => .cons (RV.drop hl hp h) (RVs.drop' hl hp r)
end
theorem RVs.length : ∀ {ws : List W} {vs : List V}, RVs K β H ws vs → ws.length = vs.length
  | _, _, .nil => rfl
  | _, _, .cons _ r => by rw [List.length_cons, List.length_cons, RVs.length r]
theorem RVs.get : ∀ {ws : List W} {vs : List V} {i : Nat} {w : W}, RVs K β H ws vs → ws[i]? = some w → ∃ v, vs[i]? = some v ∧ RV K β H w v
  | _, _, _, _, .nil, e => by simp at e
  | _, _, 0, _, .cons h r, e => by simp at e; subst e; exact ⟨_, rfl, h⟩
  | _, _, i + 1, w, .cons h r, e => by
    obtain ⟨v, h1, h2⟩ := RVs.get (i := i) (w := w) r (by simpa using e)
    exact ⟨v, by simpa using h1, h2⟩
theorem RVs.getv : ∀ {ws : List W} {vs : List V} {i : Nat} {v : V}, RVs K β H ws vs → vs[i]? = some v → ∃ w, ws[i]? = some w ∧ RV K β H w v
  | _, _, _, _, .nil, e => by simp at e
  | _, _, 0, _, .cons h r, e => by simp at e; subst e; exact ⟨_, rfl, h⟩
  | _, _, i + 1, v, .cons h r, e => by
    obtain ⟨w, h1, h2⟩ := RVs.getv (i := i) (v := v) r (by simpa using e)
    exact ⟨w, by simpa using h1, h2⟩
theorem RVs.append : ∀ {ws ws' : List W} {vs vs' : List V}, RVs K β H ws vs → RVs K β H ws' vs' → RVs K β H (ws ++ ws') (vs ++ vs')
  | _, _, _, _, .nil, s => s
  | _, _, _, _, .cons h r, s => .cons h (RVs.append r s)
theorem RVs.take : ∀ {ws : List W} {vs : List V} (n : Nat), RVs K β H ws vs → RVs K β H (ws.take n) (vs.take n)
  | _, _, 0, _ => by simp; exact .nil
  | _, _, _ + 1, .nil => by simp; exact .nil
  | _, _, n + 1, .cons h r => .cons h (RVs.take n r)
theorem RVs.drop : ∀ {ws : List W} {vs : List V} (n : Nat), RVs K β H ws vs → RVs K β H (ws.drop n) (vs.drop n)
  | _, _, 0, r => r
  | _, _, _ + 1, .nil => by simp; exact .nil
  | _, _, n + 1, .cons _ r => RVs.drop n r
theorem RVs.set {w : W} {v : V} (h : RV K β H w v) : ∀ {ws : List W} {vs : List V} (i : Nat), RVs K β H ws vs → RVs K β H (ws.set i w) (vs.set i v)
  | _, _, _, .nil => .nil
  | _, _, 0, .cons _ r => .cons h r
  | _, _, i + 1, .cons q r => .cons q (RVs.set h i r)
theorem RVs.rep {ws : List W} {vs : List V} (h : RVs K β H ws vs) : ∀ k : Nat, RVs K β H (List.replicate k ws).flatten (List.replicate k vs).flatten
  | 0 => .nil
  | k + 1 => by
    rw [List.replicate_succ, List.replicate_succ, List.flatten_cons, List.flatten_cons]
    exact RVs.append h (RVs.rep h k)
theorem RVs.dropLast {ws : List W} {vs : List V} (h : RVs K β H ws vs) : RVs K β H ws.dropLast vs.dropLast := by
  rw [List.dropLast_eq_take, List.dropLast_eq_take, h.length]
  exact h.take _
theorem RVs.reverse : ∀ {ws : List W} {vs : List V}, RVs K β H ws vs → RVs K β H ws.reverse vs.reverse
  | _, _, .nil => .nil
  | _, _, .cons h r => by
    rw [List.reverse_cons, List.reverse_cons]
    exact (RVs.reverse r).append (.cons h .nil)
theorem RVs.eraseIdx : ∀ {ws : List W} {vs : List V} (i : Nat), RVs K β H ws vs → RVs K β H (ws.eraseIdx i) (vs.eraseIdx i)
  | _, _, _, .nil => .nil
  | _, _, 0, .cons _ r => r
  | _, _, i + 1, .cons q r => .cons q (RVs.eraseIdx i r)
end

/-- fields, a dict's pairs -/
inductive RF (K : PySem.W.Frag) (β : Bt) (H : Hp) {κ : Type} : List (κ × W) → List (κ × V) → Prop
  | nil : RF K β H [] []
  | cons {k : κ} {w : W} {v : V} {fs : List (κ × W)} {gs : List (κ × V)} : RV K β H w v → RF K β H fs gs → RF K β H ((k, w) :: fs) ((k, v) :: gs)
section
variable {K : PySem.W.Frag} {β β' : Bt} {H H' : Hp} {κ : Type}
theorem RF.ext (e : Ext K β H β' H') : ∀ {fs : List (κ × W)} {gs : List (κ × V)}, RF K β H fs gs → RF K β' H' fs gs
  | _, _, .nil => .nil
  | _, _, .cons h r => .cons (h.ext e) (RF.ext e r)
theorem RF.drop' (hl : β'.l = β.l) (hp : ∀ p, p ∈ β'.pr → p ∈ β.pr) : ∀ {fs : List (κ × W)} {gs : List (κ × V)}, RF K β H fs gs → RF K β' H fs gs
  | _, _, .nil => .nil
  | _, _, .cons h r => .cons (h.drop hl hp) (RF.drop' hl hp r)
theorem RF.length : ∀ {fs : List (κ × W)} {gs : List (κ × V)}, RF K β H fs gs → fs.length = gs.length
  | _, _, .nil => rfl
  | _, _, .cons _ r => by rw [List.length_cons, List.length_cons, RF.length r]
theorem RF.look [BEq κ] [LawfulBEq κ] {k : κ} : ∀ {fs : List (κ × W)} {gs : List (κ × V)} {w : W}, RF K β H fs gs → fs.lookup k = some w → ∃ v, gs.lookup k = some v ∧ RV K β H w v
  | _, _, _, .nil, e => by cases e
  | _, _, w, .cons (k := j) (w := u) (v := v) (fs := fs) (gs := gs) h r, e => by
    rw [List.lookup_cons] at e ⊢
    cases hk : (k == j) with
    | true =>
      rw [hk] at e
      cases e
      exact ⟨v, rfl, h⟩
    | false =>
      rw [hk] at e
      exact RF.look r e
theorem RF.lookN [BEq κ] [LawfulBEq κ] {k : κ} : ∀ {fs : List (κ × W)} {gs : List (κ × V)}, RF K β H fs gs → fs.lookup k = none → gs.lookup k = none
  | _, _, .nil, _ => rfl
  | _, _, .cons (k := j) h r, e => by
    rw [List.lookup_cons] at e ⊢
    cases hk : (k == j) with
    | true => rw [hk] at e; cases e
    | false =>
      rw [hk] at e
      exact RF.lookN r e
end
/-- a field stored -/
def putW (f : Str) (v : W) : Fl → Fl
  | [] => [(f, v)]
  | (g, u) :: r => if g = f then (f, v) :: r else (g, u) :: putW f v r
end Mi
/-! The mirror layer, part B: the store in a heap; what is wanted of an outcome. -/
namespace Mi
open PySem L2

abbrev Bt.push (β : Bt) (p : Addr) : Bt := ⟨β.l ++ [some p], β.pr⟩
abbrev Bt.letgo (β : Bt) (i : Nat) : Bt := ⟨β.l.set i none, β.pr⟩
abbrev Bt.guard (β : Bt) (p : Addr) : Bt := ⟨β.l, p :: β.pr⟩

section
variable (K : PySem.W.Frag) (Cl : Nat → Addr)
def RO (β : Bt) (H : Hp) (a : Addr) : Ob → Prop
  | .lst ws => ∃ vs, H a = some (.lst vs) ∧ RVs K β H ws vs
  | .dK kvs => ∃ gs, H a = some (.dK gs) ∧ RF K β H kvs gs
  | .dT kvs => ∃ gs, H a = some (.dT gs) ∧ RF K β H kvs gs
  | .ins c fs => ∃ dx gs, H a = some (.ins (Cl c) dx gs) ∧ RF K β H fs gs
  | .dead => False
structure HR (β : Bt) (H : Hp) (st : Sto) : Prop where
  len : β.l.length = st.length
  inj : ∀ (i j : Nat) (a : Addr), β.l[i]? = some (some a) → β.l[j]? = some (some a) → i = j
  ob : ∀ (i : Nat) (a : Addr) (o : Ob), β.l[i]? = some (some a) → st[i]? = some o → RO K Cl β H a o
  dead : ∀ i : Nat, β.l[i]? = some none → st[i]? = some .dead
  prot : ∀ p ∈ β.pr, (∃ o, H p = some o) ∧ ∀ i : Nat, β.l[i]? ≠ some (some p)
def SR (β : Bt) (H : Hp) (s : Slo) (σ : L2.St) : Prop := s.length = σ.length ∧ ∀ (i : Nat) (w : W), s[i]? = some (some w) → ∃ v, σ[i]? = some (some v) ∧ RV K β H w v
/-- an exception's own dict -/
def RX (β : Bt) (H : Hp) (fs : Fl) (d : Option Addr) : Prop := (fs = [] ∧ d = none) ∨ ∃ dd gs, d = some dd ∧ H dd = some (.xd gs) ∧ RF K β H fs gs

def PoG {α ω : Type} (R : Bt → Hp → α → ω → Prop) (E : XK) (β : Bt) (H : Hp) (Q : ω → Hp → Prop) : Out α → Prop
  | .ok a st => ∀ β' H' v, Ext K β H β' H' → HR K Cl β' H' st → R β' H' a v → Q v H'
  | .exc c fs st => ∀ β' H' d, Ext K β H β' H' → HR K Cl β' H' st → RX K β' H' fs d → E (.ref (Cl c)) d H'
  | .stuck => False
abbrev Po (E : XK) := PoG K Cl (RV K) E
abbrev PoL (E : XK) := PoG K Cl (RVs K) E
abbrev PoB (E : XK) := PoG K Cl (fun _ _ (a b : Bool) => a = b) E
def PoS (E : XK) (D : Ends) (β : Bt) (H : Hp) : SO → Prop
  | .nx s st => ∀ β' H' σ', Ext K β H β' H' → HR K Cl β' H' st → SR K β' H' s σ' → D.nx σ' H'
  | .rt w st => ∀ β' H' v, Ext K β H β' H' → HR K Cl β' H' st → RV K β' H' w v → D.rt v H'
  | .bk s st => ∀ β' H' σ', Ext K β H β' H' → HR K Cl β' H' st → SR K β' H' s σ' → D.bk σ' H'
  | .ct s st => ∀ β' H' σ', Ext K β H β' H' → HR K Cl β' H' st → SR K β' H' s σ' → D.ct σ' H'
  | .exc c fs st => ∀ β' H' d, Ext K β H β' H' → HR K Cl β' H' st → RX K β' H' fs d → E (.ref (Cl c)) d H'
  | .stuck => False
def SE (E : XK) (t : TE) (m : ME) : Prop := ∀ β H σ s st Q, HR K Cl β H st → SR K β H s σ → Po K Cl E β H Q (m s st) → t σ H Q
def SA (E : XK) (t : TA) (m : MA) : Prop := ∀ β H σ s st Q, HR K Cl β H st → SR K β H s σ → PoL K Cl E β H Q (m s st) → t σ H Q
def ST (E : XK) (t : TT) (m : MT) : Prop := ∀ β H σ s st Q, HR K Cl β H st → SR K β H s σ → PoB K Cl E β H Q (m s st) → t σ H Q
def SS (E : XK) (t : TS) (m : MS) : Prop := ∀ β H σ s st D, HR K Cl β H st → SR K β H s σ → PoS K Cl E D β H (m s st) → t D σ H
end

section
variable {K : PySem.W.Frag} {Cl : Nat → Addr} {E : XK} {β β' : Bt} {H H' : Hp} {α ω : Type} {R : Bt → Hp → α → ω → Prop} {Q Q' : ω → Hp → Prop} {st : Sto} {s : Slo} {σ : L2.St} {o : Out α}
theorem PoG.ext (e : Ext K β H β' H') (h : PoG K Cl R E β H Q o) : PoG K Cl R E β' H' Q o := by
  cases o with
  | ok a st => exact fun β2 H2 v e2 hr r => h β2 H2 v (e.trans e2) hr r
  | exc c fs st => exact fun β2 H2 d e2 hr r => h β2 H2 d (e.trans e2) hr r
  | stuck => exact h
theorem PoS.ext {D : Ends} {o : SO} (e : Ext K β H β' H') (h : PoS K Cl E D β H o) : PoS K Cl E D β' H' o := by
  cases o with
  | nx s st => exact fun β2 H2 v e2 hr r => h β2 H2 v (e.trans e2) hr r
  | rt s st => exact fun β2 H2 v e2 hr r => h β2 H2 v (e.trans e2) hr r
  | bk s st => exact fun β2 H2 v e2 hr r => h β2 H2 v (e.trans e2) hr r
  | ct s st => exact fun β2 H2 v e2 hr r => h β2 H2 v (e.trans e2) hr r
  | exc c fs st => exact fun β2 H2 d e2 hr r => h β2 H2 d (e.trans e2) hr r
  | stuck => exact h
theorem SR.ext (e : Ext K β H β' H') (h : SR K β H s σ) : SR K β' H' s σ := ⟨h.1, fun i w hw => by
  obtain ⟨v, h1, h2⟩ := h.2 i w hw
  exact ⟨v, h1, h2.ext e⟩⟩
theorem SR.set (h : SR K β H s σ) {i : Nat} {w : W} {v : V} (r : RV K β H w v) : SR K β H (s.set i (some w)) (σ.set i (some v)) := by
  refine ⟨by rw [List.length_set, List.length_set, h.1], fun j u hj => ?_⟩
  by_cases e : i = j
  · subst e
    by_cases hl : i < s.length
    · rw [List.getElem?_set_self hl] at hj
      cases hj
      exact ⟨v, by rw [List.getElem?_set_self (by rw [← h.1]; exact hl)], r⟩
    · rw [List.getElem?_eq_none (by rw [List.length_set]; omega)] at hj
      cases hj
  · rw [List.getElem?_set_ne e] at hj ⊢
    exact h.2 j u hj
theorem HR.len' (h : HR K Cl β H st) {i : Nat} {o : Option Addr} (e : β.l[i]? = some o) : i < st.length := by
  rw [← h.len]
  exact (List.getElem?_eq_some_iff.mp e).1
/-- what a live place of the store holds -/
theorem HR.at (h : HR K Cl β H st) {i : Nat} {ob : Ob} (e : st[i]? = some ob) (hd : ob ≠ .dead) : ∃ a, β.l[i]? = some (some a) ∧ RO K Cl β H a ob := by
  have hi : i < β.l.length := by
    rw [h.len]
    exact (List.getElem?_eq_some_iff.mp e).1
  cases hb : β.l[i]? with
  | none => rw [List.getElem?_eq_none_iff] at hb; omega
  | some o =>
    cases o with
    | none =>
      rw [h.dead i hb] at e
      exact absurd (Option.some.inj e).symm hd
    | some a => exact ⟨a, rfl, h.ob i a ob hb e⟩
/-- a ref with a live object -/
theorem RV.atRef {i : Nat} {v : V} {ob : Ob} (r : RV K β H (.ref i) v) (h : HR K Cl β H st) (e : st[i]? = some ob) (hd : ob ≠ .dead) : ∃ a, v = .ref a ∧ β.l[i]? = some (some a) ∧ RO K Cl β H a ob := by
  obtain ⟨a, hb, ro⟩ := h.at e hd
  cases r with
  | ref h1 =>
    rw [hb] at h1
    cases h1
    exact ⟨a, rfl, hb, ro⟩
  | dead h1 =>
    rw [hb] at h1
    cases h1
theorem RO.some {a : Addr} {ob : Ob} (r : RO K Cl β H a ob) : ∃ u, H a = some u ∧ Mut (some u) := by
  cases ob with
  | lst ws => obtain ⟨_, h, _⟩ := r; exact ⟨_, h, trivial⟩
  | dK ws => obtain ⟨_, h, _⟩ := r; exact ⟨_, h, trivial⟩
  | dT ws => obtain ⟨_, h, _⟩ := r; exact ⟨_, h, trivial⟩
  | ins c fs => obtain ⟨_, _, h, _⟩ := r; exact ⟨_, h, trivial⟩
  | dead => exact r.elim
theorem RO.ext {a : Addr} {ob : Ob} (e : Ext K β H β' H') (ha : H' a = H a) (r : RO K Cl β H a ob) : RO K Cl β' H' a ob := by
  cases ob with
  | lst ws => obtain ⟨vs, h, r⟩ := r; exact ⟨vs, ha.trans h, r.ext e⟩
  | dK ws => obtain ⟨vs, h, r⟩ := r; exact ⟨vs, ha.trans h, r.ext e⟩
  | dT ws => obtain ⟨vs, h, r⟩ := r; exact ⟨vs, ha.trans h, r.ext e⟩
  | ins c fs => obtain ⟨dx, vs, h, r⟩ := r; exact ⟨dx, vs, ha.trans h, r.ext e⟩
  | dead => exact r.elim

/-! ### a new object that the store does not know -/
theorem sqT_ne {p q : Addr} {o : HO} {vs : List V} (h : H p = none) (hq : SqT K H q vs) : SqT K (upd H p o) q vs := by
  rcases hq with (hq | ⟨u, hq⟩) | hq
  · exact .inl (.inl (by rw [upd_ne (ne_of_none hq h)]; exact hq))
  · exact .inl (.inr ⟨u, by rw [upd_ne (ne_of_none hq h)]; exact hq⟩)
  · exact .inr hq
theorem Ext.new {p : Addr} {o : HO} (h : H p = none) : Ext K β H β (upd H p o) where
  tup := fun q vs hq => sqT_ne h hq
  lst := fun q vs hq n => ⟨by rw [upd_ne (ne_of_none hq h)]; exact hq, n⟩
  frz := fun q u x hq => by rw [upd_ne (ne_of_none hq h)]; exact hq
  live := fun _ _ h => .inl h
  prot := fun q hp u hq => ⟨hp, by rw [upd_ne (ne_of_none hq h)]; exact hq⟩
theorem HR.fresh (h : HR K Cl β H st) {p : Addr} (hp : H p = none) : NotIn β p := by
  refine ⟨fun i hi => ?_, fun hi => ?_⟩
  · have hl := h.len' hi
    obtain ⟨ob, ho⟩ : ∃ ob, st[i]? = some ob := ⟨st[i], List.getElem?_eq_getElem hl⟩
    obtain ⟨u, hu, _⟩ := (h.ob i p ob hi ho).some
    rw [hp] at hu
    cases hu
  · obtain ⟨⟨o, ho⟩, _⟩ := h.prot p hi
    rw [hp] at ho
    cases ho
theorem HR.new (h : HR K Cl β H st) {p : Addr} {o : HO} (hp : H p = none) : HR K Cl β (upd H p o) st where
  len := h.len
  inj := h.inj
  ob := fun i a ob hi ho => by
    have r := h.ob i a ob hi ho
    obtain ⟨u, hu, _⟩ := r.some
    exact r.ext (Ext.new hp) (upd_ne (ne_of_none hu hp))
  dead := h.dead
  prot := fun q hq => by
    obtain ⟨⟨u, hu⟩, n⟩ := h.prot q hq
    exact ⟨⟨u, by rw [upd_ne (ne_of_none hu hp)]; exact hu⟩, n⟩
/-- any heap that keeps all that is tracked -/
theorem Ext.same (e : Same H H') : Ext K β H β H' where
  tup := fun q vs hq => by
    rcases hq with (hq | ⟨u, hq⟩) | hq
    · exact .inl (.inl (e _ _ hq))
    · exact .inl (.inr ⟨u, e _ _ hq⟩)
    · exact .inr hq
  lst := fun q vs hq n => ⟨e _ _ hq, n⟩
  frz := fun q u x hq => e _ _ hq
  live := fun _ _ h => .inl h
  prot := fun q hp u hq => ⟨hp, e _ _ hq⟩
theorem HR.same (h : HR K Cl β H st) (e : Same H H') : HR K Cl β H' st where
  len := h.len
  inj := h.inj
  ob := fun i a ob hi ho => by
    have r := h.ob i a ob hi ho
    obtain ⟨u, hu, _⟩ := r.some
    exact r.ext (Ext.same e) (by rw [e _ _ hu, hu])
  dead := h.dead
  prot := fun q hq => by
    obtain ⟨⟨u, hu⟩, n⟩ := h.prot q hq
    exact ⟨⟨u, e _ _ hu⟩, n⟩

/-! ### a new object of the store -/
theorem push_at {p : Addr} {i : Nat} {o : Option Addr} (h : (β.push p).l[i]? = some o) : β.l[i]? = some o ∨ (i = β.l.length ∧ o = some p) := by
  by_cases hl : i < β.l.length
  · rw [List.getElem?_append_left hl] at h
    exact .inl h
  · rw [List.getElem?_append_right (by omega)] at h
    cases hk : i - β.l.length with
    | zero =>
      rw [hk] at h
      exact .inr ⟨by omega, (Option.some.inj h).symm⟩
    | succ k => rw [hk] at h; simp at h
theorem Ext.push {p : Addr} {o : HO} (h : H p = none) : Ext K β H (β.push p) (upd H p o) where
  tup := fun q vs hq => sqT_ne h hq
  lst := fun q vs hq n => ⟨by rw [upd_ne (ne_of_none hq h)]; exact hq, fun i hi => by
    have hne := ne_of_none hq h
    rcases push_at hi with hi | ⟨_, hi⟩
    · exact n.1 i hi
    · exact hne (Option.some.inj hi), n.2⟩
  frz := fun q u x hq => by rw [upd_ne (ne_of_none hq h)]; exact hq
  live := fun i o hi => .inl (by rw [List.getElem?_append_left (List.getElem?_eq_some_iff.mp hi).1]; exact hi)
  prot := fun q hp u hq => ⟨hp, by rw [upd_ne (ne_of_none hq h)]; exact hq⟩
theorem HR.push (h : HR K Cl β H st) {p : Addr} {o : HO} {ob : Ob} (hp : H p = none) (r : RO K Cl (β.push p) (upd H p o) p ob) : HR K Cl (β.push p) (upd H p o) (st ++ [ob]) where
  len := by
    show (β.l ++ [some p]).length = _
    rw [List.length_append, List.length_append, h.len] <;> rfl
  inj := fun i j a hi hj => by
    have nf := (h.fresh hp).1
    rcases push_at hi with hi | ⟨hi, ei⟩
    · rcases push_at hj with hj | ⟨hj, ej⟩
      · exact h.inj i j a hi hj
      · cases ej
        exact absurd hi (nf i)
    · rcases push_at hj with hj | ⟨hj, ej⟩
      · cases ei
        exact absurd hj (nf j)
      · rw [hi, hj]
  ob := fun i a ob' hi ho => by
    rcases push_at hi with hi | ⟨hi, ei⟩
    · have hl := h.len' hi
      rw [List.getElem?_append_left hl] at ho
      have r' := h.ob i a ob' hi ho
      obtain ⟨u, hu, _⟩ := r'.some
      exact r'.ext (Ext.push hp) (upd_ne (ne_of_none hu hp))
    · cases ei
      rename_i hi2
      have hi3 : i = st.length := by rw [← h.len]; exact hi2
      rw [hi3, List.getElem?_append_right (Nat.le_refl _), Nat.sub_self] at ho
      cases ho
      exact r
  dead := fun i hi => by
    rcases push_at hi with hi | ⟨_, ei⟩
    · have hl := h.len' hi
      rw [List.getElem?_append_left hl]
      exact h.dead i hi
    · cases ei
  prot := fun q hq => by
    obtain ⟨⟨u, hu⟩, n⟩ := h.prot q hq
    have hne := ne_of_none hu hp
    refine ⟨⟨u, by rw [upd_ne hne]; exact hu⟩, fun i hi => ?_⟩
    rcases push_at hi with hi | ⟨_, hi⟩
    · exact n i hi
    · exact hne (Option.some.inj hi)
theorem push_last {p : Addr} : (β.push p).l[β.l.length]? = some (some p) := by
  show (β.l ++ [some p])[β.l.length]? = _
  simp

/-! ### an object of the store changes -/
theorem Ext.mut (hr : HR K Cl β H st) {i : Nat} {a : Addr} {o u : HO} (hb : β.l[i]? = some (some a)) (hu : H a = some u) (hm : Mut (some u)) : Ext K β H β (upd H a o) where
  tup := fun q vs hq => by
    rcases hq with (hq | ⟨x, hq⟩) | hq
    · exact .inl (.inl (by rw [upd_ne (fun e => by subst e; rw [hu] at hq; cases hq; exact hm)]; exact hq))
    · exact .inl (.inr ⟨x, by rw [upd_ne (fun e => by subst e; rw [hu] at hq; cases hq; exact hm)]; exact hq⟩)
    · exact .inr hq
  lst := fun q vs hq n => ⟨by rw [upd_ne (fun e => by subst e; exact n.1 i hb)]; exact hq, n⟩
  frz := fun q x y hq => by rw [upd_ne (fun e => by subst e; rw [hu] at hq; cases hq; exact hm)]; exact hq
  live := fun _ _ h => .inl h
  prot := fun q hp u hq => ⟨hp, by rw [upd_ne (fun e => by subst e; exact (hr.prot _ hp).2 i hb)]; exact hq⟩
theorem HR.mut (h : HR K Cl β H st) {i : Nat} {a : Addr} {o u : HO} {ob : Ob} (hb : β.l[i]? = some (some a)) (hu : H a = some u) (hm : Mut (some u)) (r : RO K Cl β (upd H a o) a ob) : HR K Cl β (upd H a o) (st.set i ob) where
  len := by rw [List.length_set]; exact h.len
  inj := h.inj
  ob := fun j b ob' hj ho => by
    by_cases e : i = j
    · subst e
      rw [hb] at hj
      cases hj
      rw [List.getElem?_set_self (h.len' hb)] at ho
      cases ho
      exact r
    · rw [List.getElem?_set_ne e] at ho
      have hne : b ≠ a := fun z => by
        subst z
        exact e (h.inj i j b hb hj)
      exact (h.ob j b ob' hj ho).ext (Ext.mut h hb hu hm) (upd_ne hne)
  dead := fun j hj => by
    have e : i ≠ j := fun z => by
      subst z
      rw [hb] at hj
      cases hj
    rw [List.getElem?_set_ne e]
    exact h.dead j hj
  prot := fun q hq => by
    obtain ⟨⟨u, hu'⟩, n⟩ := h.prot q hq
    refine ⟨?_, n⟩
    by_cases e : q = a
    · subst e
      exact absurd hb (n i)
    · exact ⟨u, by rw [upd_ne e]; exact hu'⟩

/-! ### an object of the store is let go: its list becomes a value -/
theorem let_at {i j : Nat} {o : Option Addr} (h : (β.letgo i).l[j]? = some o) : (j = i ∧ o = none) ∨ (j ≠ i ∧ β.l[j]? = some o) := by
  by_cases e : i = j
  · subst e
    by_cases hl : i < β.l.length
    · rw [List.getElem?_set_self hl] at h
      exact .inl ⟨rfl, (Option.some.inj h).symm⟩
    · rw [List.getElem?_eq_none (by rw [List.length_set]; omega)] at h
      cases h
  · rw [List.getElem?_set_ne e] at h
    exact .inr ⟨fun z => e z.symm, h⟩
theorem Ext.letgo {i : Nat} : Ext K β H (β.letgo i) H where
  tup := fun q vs hq => hq
  lst := fun q vs hq n => ⟨hq, fun j hj => by
    rcases let_at hj with ⟨_, e⟩ | ⟨_, e⟩
    · cases e
    · exact n.1 j e, n.2⟩
  frz := fun q x y hq => hq
  live := fun j o hj => by
    by_cases e : i = j
    · subst e
      exact .inr (by rw [List.getElem?_set_self (List.getElem?_eq_some_iff.mp hj).1])
    · exact .inl (by rw [List.getElem?_set_ne e]; exact hj)
  prot := fun q hp u hq => ⟨hp, hq⟩
theorem HR.letgo (h : HR K Cl β H st) {i : Nat} {a : Addr} (hb : β.l[i]? = some (some a)) : HR K Cl (β.letgo i) H (st.set i .dead) where
  len := by
    show (β.l.set i none).length = _
    rw [List.length_set, List.length_set]
    exact h.len
  inj := fun j k b hj hk => by
    rcases let_at hj with ⟨_, e⟩ | ⟨_, e⟩
    · cases e
    · rcases let_at hk with ⟨_, e'⟩ | ⟨_, e'⟩
      · cases e'
      · exact h.inj j k b e e'
  ob := fun j b ob hj ho => by
    rcases let_at hj with ⟨_, e⟩ | ⟨ne, e⟩
    · cases e
    · rw [List.getElem?_set_ne (fun z => ne z.symm)] at ho
      exact (h.ob j b ob e ho).ext Ext.letgo rfl
  dead := fun j hj => by
    rcases let_at hj with ⟨e, _⟩ | ⟨ne, e⟩
    · subst e
      rw [List.getElem?_set_self (h.len' hb)]
    · rw [List.getElem?_set_ne (fun z => ne z.symm)]
      exact h.dead j e
  prot := fun q hq => by
    obtain ⟨hu, n⟩ := h.prot q hq
    refine ⟨hu, fun j hj => ?_⟩
    rcases let_at hj with ⟨_, e⟩ | ⟨_, e⟩
    · cases e
    · exact n j e

/-! ### a list that a comprehension makes: guarded, outside of the store -/
theorem Ext.guard {p : Addr} {o : HO} (h : H p = none) : Ext K β H (β.guard p) (upd H p o) where
  tup := fun q vs hq => sqT_ne h hq
  lst := fun q vs hq n => ⟨by rw [upd_ne (ne_of_none hq h)]; exact hq, n.1, fun z => by
    rcases List.mem_cons.mp z with z | z
    · exact ne_of_none hq h z
    · exact n.2 z⟩
  frz := fun q u x hq => by rw [upd_ne (ne_of_none hq h)]; exact hq
  live := fun _ _ h => .inl h
  prot := fun q hp u hq => ⟨List.mem_cons_of_mem _ hp, by rw [upd_ne (ne_of_none hq h)]; exact hq⟩
theorem HR.guard (h : HR K Cl β H st) {p : Addr} {o : HO} (hp : H p = none) : HR K Cl (β.guard p) (upd H p o) st where
  len := h.len
  inj := h.inj
  ob := fun i a ob hi ho => by
    have r := h.ob i a ob hi ho
    obtain ⟨u, hu, _⟩ := r.some
    exact r.ext (Ext.guard hp) (upd_ne (ne_of_none hu hp))
  dead := h.dead
  prot := fun q hq => by
    rcases List.mem_cons.mp hq with e | hq
    · subst e
      exact ⟨⟨o, upd_same⟩, (h.fresh hp).1⟩
    · obtain ⟨⟨u, hu⟩, n⟩ := h.prot q hq
      exact ⟨⟨u, by rw [upd_ne (ne_of_none hu hp)]; exact hu⟩, n⟩
/-- the guarded list at p has changed: what was known is known again -/
theorem Ext.gset {p : Addr} {vs : List V} {o : HO} (hu : H p = some (.lst vs)) (hp : p ∈ β.pr) (β0 : Bt) (H0 : Hp) (e : Ext K β0 H0 β H) (h0 : H0 p = none) : Ext K β0 H0 β (upd H p o) where
  tup := fun q us hq => by
    have hq' := e.tup q us hq
    rcases hq with (hq | ⟨x, hq⟩) | hq
    · rcases hq' with (hq' | ⟨x, hq'⟩) | hq'
      · exact .inl (.inl (by rw [upd_ne (ne_of_none hq h0)]; exact hq'))
      · exact .inl (.inr ⟨x, by rw [upd_ne (ne_of_none hq h0)]; exact hq'⟩)
      · exact .inr hq'
    · rcases hq' with (hq' | ⟨x, hq'⟩) | hq'
      · exact .inl (.inl (by rw [upd_ne (ne_of_none hq h0)]; exact hq'))
      · exact .inl (.inr ⟨x, by rw [upd_ne (ne_of_none hq h0)]; exact hq'⟩)
      · exact .inr hq'
    · exact .inr hq
  lst := fun q us hq n => ⟨by rw [upd_ne (ne_of_none hq h0)]; exact (e.lst q us hq n).1, (e.lst q us hq n).2⟩
  frz := fun q u x hq => by rw [upd_ne (ne_of_none hq h0)]; exact e.frz q u x hq
  live := e.live
  prot := fun q hq u hu => ⟨(e.prot q hq u hu).1, by rw [upd_ne (ne_of_none hu h0)]; exact (e.prot q hq u hu).2⟩
/-- the same for what was reckoned while the list was guarded -/
structure Keep (K : PySem.W.Frag) (β : Bt) (H H' : Hp) : Prop where
  tup : ∀ p vs, SqT K H p vs → SqT K H' p vs
  lst : ∀ p vs, H p = some (.lst vs) → NotIn β p → H' p = some (.lst vs)
  frz : ∀ p o u, H p = some (.frz o u) → H' p = some (.frz o u)
mutual
theorem RV.keep (e : Keep K β H H') : ∀ {w : W} {v : V}, RV K β H w v → RV K β H' w v
  | _, _, .non => .non
  | _, _, .bl b => .bl b
  | _, _, .int i => .int i
  | _, _, .str x => .str x
  | _, _, .tup h r => .tup (e.tup _ _ h) (RVs.keep e r)
  | _, _, .lst h n r => .lst (e.lst _ _ h n) n (RVs.keep e r)
  | _, _, .xst h r => .xst (h.imp (fun x => x) fun ⟨o, x⟩ => ⟨o, e.frz _ _ _ x⟩) (RVs.keep e r)
  | _, _, .ref h => .ref h
  | _, _, .dead h => .dead h
theorem RVs.keep (e : Keep K β H H') : ∀ {ws : List W} {vs : List V}, RVs K β H ws vs → RVs K β H' ws vs
  | _, _, .nil => .nil
  | _, _, .cons h r => .cons (RV.keep e h) (RVs.keep e r)
end
theorem RF.keep {κ : Type} (e : Keep K β H H') : ∀ {fs : List (κ × W)} {gs : List (κ × V)}, RF K β H fs gs → RF K β H' fs gs
  | _, _, .nil => .nil
  | _, _, .cons h r => .cons (h.keep e) (RF.keep e r)
theorem Keep.gset {p : Addr} {vs : List V} {o : HO} (hu : H p = some (.lst vs)) (hp : p ∈ β.pr) : Keep K β H (upd H p o) where
  tup := fun q us hq => by
    rcases hq with (hq | ⟨x, hq⟩) | hq
    · exact .inl (.inl (by rw [upd_ne (fun e => by subst e; rw [hu] at hq; cases hq)]; exact hq))
    · exact .inl (.inr ⟨x, by rw [upd_ne (fun e => by subst e; rw [hu] at hq; cases hq)]; exact hq⟩)
    · exact .inr hq
  lst := fun q us hq n => by rw [upd_ne (fun e => by subst e; exact n.2 hp)]; exact hq
  frz := fun q x y hq => by rw [upd_ne (fun e => by subst e; rw [hu] at hq; cases hq)]; exact hq
theorem RO.keep {a : Addr} {ob : Ob} (e : Keep K β H H') (ha : H' a = H a) (r : RO K Cl β H a ob) : RO K Cl β H' a ob := by
  cases ob with
  | lst ws => obtain ⟨vs, h, r⟩ := r; exact ⟨vs, ha.trans h, r.keep e⟩
  | dK ws => obtain ⟨vs, h, r⟩ := r; exact ⟨vs, ha.trans h, r.keep e⟩
  | dT ws => obtain ⟨vs, h, r⟩ := r; exact ⟨vs, ha.trans h, r.keep e⟩
  | ins c fs => obtain ⟨dx, vs, h, r⟩ := r; exact ⟨dx, vs, ha.trans h, r.keep e⟩
  | dead => exact r.elim
theorem HR.gset (h : HR K Cl β H st) {p : Addr} {vs : List V} {o : HO} (hu : H p = some (.lst vs)) (hp : p ∈ β.pr) : HR K Cl β (upd H p o) st where
  len := h.len
  inj := h.inj
  ob := fun i a ob hi ho => (h.ob i a ob hi ho).keep (Keep.gset hu hp) (upd_ne fun e => by subst e; exact (h.prot _ hp).2 i hi)
  dead := h.dead
  prot := fun q hq => by
    obtain ⟨⟨u, hu'⟩, n⟩ := h.prot q hq
    refine ⟨?_, n⟩
    by_cases e : q = p
    · subst e
      exact ⟨o, upd_same⟩
    · exact ⟨u, by rw [upd_ne e]; exact hu'⟩
/-- the guard is taken away -/
theorem RO.drop {a : Addr} {ob : Ob} (hl : β'.l = β.l) (hp : ∀ p, p ∈ β'.pr → p ∈ β.pr) (r : RO K Cl β H a ob) : RO K Cl β' H a ob := by
  cases ob with
  | lst ws => obtain ⟨vs, h, r⟩ := r; exact ⟨vs, h, r.drop' hl hp⟩
  | dK ws => obtain ⟨vs, h, r⟩ := r; exact ⟨vs, h, r.drop' hl hp⟩
  | dT ws => obtain ⟨vs, h, r⟩ := r; exact ⟨vs, h, r.drop' hl hp⟩
  | ins c fs => obtain ⟨dx, vs, h, r⟩ := r; exact ⟨dx, vs, h, r.drop' hl hp⟩
  | dead => exact r.elim
theorem HR.drop (h : HR K Cl β H st) (hl : β'.l = β.l) (hp : ∀ p, p ∈ β'.pr → p ∈ β.pr) : HR K Cl β' H st where
  len := by rw [hl]; exact h.len
  inj := by rw [hl]; exact h.inj
  ob := fun i a ob hi ho => by
    rw [hl] at hi
    exact (h.ob i a ob hi ho).drop hl hp
  dead := by rw [hl]; exact h.dead
  prot := fun q hq => by
    rw [hl]
    exact h.prot q (hp q hq)
/-- from ahead of the guard to behind it -/
theorem Ext.drop {p : Addr} (e : Ext K β H β' H') (h0 : ∀ q, q ∈ β.pr → ∃ o, H q = some o) (hp : H p = none) : Ext K β H ⟨β'.l, β'.pr.filter fun q => decide (q ≠ p)⟩ H' where
  tup := e.tup
  lst := fun q us hq n => ⟨(e.lst q us hq n).1, (e.lst q us hq n).2.1, fun z => (e.lst q us hq n).2.2 (List.mem_filter.mp z).1⟩
  frz := e.frz
  live := e.live
  prot := fun q hq u hu => ⟨List.mem_filter.mpr ⟨(e.prot q hq u hu).1, decide_eq_true (ne_of_none hu hp)⟩, (e.prot q hq u hu).2⟩
end
end Mi
/-! The mirror layer, part C: expressions. -/
namespace Mi
open PySem L2

/-! ### judgements: the hand layer's term exists, and its reading follows from the mirror -/
structure JE (X : Cx) (Cl : Nat → Addr) (E : XK) (e : Expr) (m : ME) : Prop where
  ex : ∃ t, PE X e t ∧ SE X.K Cl E t m
structure JA (X : Cx) (Cl : Nat → Addr) (E : XK) (es : List Expr) (m : MA) : Prop where
  ex : ∃ t, PA X es t ∧ SA X.K Cl E t m
structure JT (X : Cx) (Cl : Nat → Addr) (E : XK) (e : Expr) (m : MT) : Prop where
  ex : ∃ t, PT X e t ∧ ST X.K Cl E t m
structure JW (X : Cx) (Cl : Nat → Addr) (E : XK) (e : Expr) (m : MT) : Prop where
  ex : ∃ t, PW X e t ∧ ST X.K Cl E t m

section
variable {K : PySem.W.Frag} {Cl : Nat → Addr} {E : XK} {β : Bt} {H : Hp} {α α' ω ω' : Type} {R1 : Bt → Hp → α → ω → Prop} {R2 : Bt → Hp → α' → ω' → Prop}
theorem PoG.bind {Q : ω' → Hp → Prop} {Q1 : ω → Hp → Prop} {o : Out α} {f : α → Sto → Out α'} (h : PoG K Cl R2 E β H Q (o.bind f))
    (k : ∀ a st1 β1 H1 v, o = .ok a st1 → Ext K β H β1 H1 → HR K Cl β1 H1 st1 → R1 β1 H1 a v → PoG K Cl R2 E β1 H1 Q (f a st1) → Q1 v H1) : PoG K Cl R1 E β H Q1 o := by
  cases o with
  | ok a st => exact fun β1 H1 v e hr r => k a st β1 H1 v rfl e hr r (PoG.ext e h)
  | exc c fs st => exact h
  | stuck => exact h
theorem PoG.val {Q : ω' → Hp → Prop} {a : α'} {st : Sto} {v : ω'} (h : PoG K Cl R2 E β H Q (.ok a st)) (hr : HR K Cl β H st) (r : R2 β H a v) : Q v H := h β H v (Ext.refl K β H) hr r
end

/-! ### values as data -/
mutual
@[simp] def toPy : W → Option PyData
  | .non => some .none
  | .bl b => some (.bool b)
  | .int i => some (.int i)
  | .str x => some (.str x)
  | .tup xs => (toPys xs).map .tuple
  | .lst xs => (toPys xs).map .list
  | .xst xs => (toPys xs).map .list
  | .ref _ => none
@[simp] def toPys : List W → Option (List PyData)
  | [] => some []
  | w :: ws => match toPy w, toPys ws with
    | some d, some ds => some (d :: ds)
    | _, _ => none
end
/-- a list's items -/
@[simp] def asL (w : W) (st : Sto) : Option (List W) := match w with
  | .lst ws => some ws
  | .xst ws => some ws
  | .ref i => match st[i]? with
    | some (.lst ws) => some ws
    | _ => none
  | _ => none
/-- .. of one of the call's own -/
@[simp] def asLM (w : W) (st : Sto) : Option (List W) := match w with
  | .lst ws => some ws
  | .ref i => match st[i]? with
    | some (.lst ws) => some ws
    | _ => none
  | _ => none
@[simp] def toPyS (w : W) (st : Sto) : Option PyData := match w with
  | .ref i => match st[i]? with
    | some (.lst ws) => (toPys ws).map .list
    | _ => none
  | w => toPy w
@[simp] def truth (w : W) (st : Sto) : Option Bool := match w with
  | .non => some false
  | .bl b => some b
  | .int i => some (i != 0)
  | .str x => if x.length ≤ sizeLine then some ((x.length : Int) != 0) else none
  | .tup xs => some (!xs.isEmpty)
  | .lst xs => some (!xs.isEmpty)
  | .xst xs => some (!xs.isEmpty)
  | .ref i => match st[i]? with
    | some (.lst xs) => some (!xs.isEmpty)
    | some (.dK xs) => some (!xs.isEmpty)
    | _ => none
@[simp] def flatW : W → Bool
  | .non => true | .bl _ => true | .int _ => true | .str _ => true | _ => false
@[simp] def toV : W → V
  | .non => .non | .bl b => .bl b | .int i => .int i | .str x => .str x | _ => .non

section
variable {K : PySem.W.Frag} {Cl : Nat → Addr} {E : XK} {β : Bt} {H : Hp} {st : Sto}
theorem KL.sq {a : Addr} {vs : List V} (h : KL K a vs ∨ ∃ o, H a = some (.frz o (.lst vs))) : SqL K H a vs := h.elim (fun x => .inr x) fun ⟨o, x⟩ => .inl (.inr ⟨o, x⟩)
mutual
theorem toPy_dp : ∀ {w : W} {v : V} {d : PyData}, RV K β H w v → toPy w = some d → Dp K H v d
  | _, _, _, .non, h => by cases h; exact .non
  | _, _, _, .bl b, h => by cases h; exact .bl b
  | _, _, _, .int i, h => by cases h; exact .int i
  | _, _, _, .str x, h => by cases h; exact .str x
  | _, _, _, .tup (ws := ws) hs r, h => by
    simp only [toPy, Option.map_eq_some_iff] at h
    obtain ⟨ds, h1, h2⟩ := h
    subst h2
    exact .tup hs (toPys_dp r h1)
  | _, _, _, .lst hs n r, h => by
    simp only [toPy, Option.map_eq_some_iff] at h
    obtain ⟨ds, h1, h2⟩ := h
    subst h2
    exact .lst (SqL.of hs) (toPys_dp r h1)
  | _, _, _, .xst hs r, h => by
    simp only [toPy, Option.map_eq_some_iff] at h
    obtain ⟨ds, h1, h2⟩ := h
    subst h2
    exact .lst (KL.sq hs) (toPys_dp r h1)
  | _, _, _, .ref _, h => by cases h
  | _, _, _, .dead _, h => by cases h
theorem toPys_dp : ∀ {ws : List W} {vs : List V} {ds : List PyData}, RVs K β H ws vs → toPys ws = some ds → DpAll K H vs ds
  | _, _, _, .nil, h => by cases h; exact .nil
  | _, _, _, .cons (w := w) (ws := ws) r rr, h => by
    simp only [toPys] at h
    cases h1 : toPy w with
    | none => rw [h1] at h; cases h
    | some d =>
      cases h2 : toPys ws with
      | none => rw [h1, h2] at h; cases h
      | some ds =>
        rw [h1, h2] at h
        cases h
        exact .cons (toPy_dp r h1) (toPys_dp rr h2)
end
theorem asL_ok {w : W} {v : V} {ws : List W} (hr : HR K Cl β H st) (r : RV K β H w v) (h : asL w st = some ws) : ∃ p vs, v = .ref p ∧ SqL K H p vs ∧ RVs K β H ws vs := by
  cases w with
  | lst xs => cases h; cases r with | lst h1 _ h3 => exact ⟨_, _, rfl, SqL.of h1, h3⟩
  | xst xs => cases h; cases r with | xst h1 h3 => exact ⟨_, _, rfl, KL.sq h1, h3⟩
  | ref i =>
    simp only [asL] at h
    split at h
    · rename_i e
      cases h
      obtain ⟨a, rfl, _, vs, h1, h2⟩ := r.atRef hr e (by intro z; cases z)
      exact ⟨a, vs, rfl, SqL.of h1, h2⟩
    · cases h
  | _ => cases h
theorem asLM_ok {w : W} {v : V} {ws : List W} (hr : HR K Cl β H st) (r : RV K β H w v) (h : asLM w st = some ws) : ∃ p vs, v = .ref p ∧ H p = some (.lst vs) ∧ RVs K β H ws vs := by
  cases w with
  | lst xs => cases h; cases r with | lst h1 _ h3 => exact ⟨_, _, rfl, h1, h3⟩
  | ref i =>
    simp only [asLM] at h
    split at h
    · rename_i e
      cases h
      obtain ⟨a, rfl, _, vs, h1, h2⟩ := r.atRef hr e (by intro z; cases z)
      exact ⟨a, vs, rfl, h1, h2⟩
    · cases h
  | _ => cases h
theorem toPyS_dp {w : W} {v : V} {d : PyData} (hr : HR K Cl β H st) (r : RV K β H w v) (h : toPyS w st = some d) : Dp K H v d := by
  cases w with
  | ref i =>
    simp only [toPyS] at h
    split at h
    · rename_i e
      obtain ⟨a, rfl, _, vs, h1, h2⟩ := r.atRef hr e (by intro z; cases z)
      simp only [Option.map_eq_some_iff] at h
      obtain ⟨ds, h3, h4⟩ := h
      subst h4
      exact .lst (SqL.of h1) (toPys_dp h2 h3)
    · cases h
  | _ => exact toPy_dp r h
theorem RVs.emp {ws : List W} {vs : List V} (r : RVs K β H ws vs) : ws.isEmpty = vs.isEmpty := by cases r <;> rfl
theorem truth_ok {w : W} {v : V} {k : Bool} (hr : HR K Cl β H st) (r : RV K β H w v) (h : truth w st = some k) : TruV K v H k := by
  cases w with
  | non => cases h; cases r; rfl
  | bl b => cases h; cases r; rfl
  | int i => cases h; cases r; rfl
  | str x =>
    simp only [truth] at h
    split at h
    · cases h
      cases r
      exact ⟨by assumption, rfl⟩
    · cases h
  | tup xs => cases h; cases r with | tup h1 h2 => exact .inr (.inl ⟨_, h1, by rw [h2.emp]⟩)
  | lst xs => cases h; cases r with | lst h1 _ h2 => exact .inl ⟨_, SqL.of h1, by rw [h2.emp]⟩
  | xst xs => cases h; cases r with | xst h1 h2 => exact .inl ⟨_, KL.sq h1, by rw [h2.emp]⟩
  | ref i =>
    simp only [truth] at h
    split at h
    · rename_i e
      cases h
      obtain ⟨a, rfl, _, vs, h1, h2⟩ := r.atRef hr e (by intro z; cases z)
      exact .inl ⟨_, SqL.of h1, by rw [h2.emp]⟩
    · rename_i e
      cases h
      obtain ⟨a, rfl, _, vs, h1, h2⟩ := r.atRef hr e (by intro z; cases z)
      exact .inr (.inr ⟨_, h1, by cases h2 <;> rfl⟩)
    · cases h
theorem flat_v {w : W} {v : V} (r : RV K β H w v) (h : flatW w = true) : v = toV w ∧ flatV v = true := by
  cases r <;> first | exact ⟨rfl, rfl⟩ | cases h
theorem flat_vs : ∀ {ws : List W} {vs : List V}, RVs K β H ws vs → ws.all flatW = true → vs = ws.map toV ∧ vs.all flatV = true
  | _, _, .nil, _ => ⟨rfl, rfl⟩
  | _, _, .cons r rr, h => by
    simp only [List.all_cons, Bool.and_eq_true] at h
    obtain ⟨e, f⟩ := flat_v r h.1
    obtain ⟨e', f'⟩ := flat_vs rr h.2
    subst e e'
    exact ⟨rfl, by simp only [List.all_cons, Bool.and_eq_true]; exact ⟨f, f'⟩⟩
end

/-! ### names and constants -/
@[simp] def mVar (i : Nat) : ME := fun s st => match s[i]? with
  | some (some w) => .ok w st
  | _ => .stuck
@[simp] def mC (w : W) : ME := fun _ st => .ok w st
section
variable {X : Cx} {Cl : Nat → Addr} {E : XK} {pos : Pos}
theorem se_var {K : PySem.W.Frag} {i : Nat} : SE K Cl E (tVar i) (mVar i) := fun β H σ s st Q hr hs h => by
  unfold mVar at h
  split at h
  · rename_i w e
    obtain ⟨v, h1, h2⟩ := hs.2 i w e
    exact ⟨v, h1, PoG.val h hr h2⟩
  · exact h.elim
theorem je_var (i : Nat) {x : Str} (hN : X.N[i]? = some x := by rfl) (hv : Vis X.env.scope x := by first | exact Or.inl rfl | exact Or.inr (Or.inl rfl) | exact Or.inr (Or.inr rfl)) (hd : (x == ("__debug__" : Str)) = false := by decide)
    (hcd : (x == ("__classdict__" : Str)) = false := by decide) : JE X Cl E (.Name x pos) (mVar i) := ⟨_, pe_var hN hv hd hcd, se_var⟩
theorem se_c {K : PySem.W.Frag} {w : W} {v : V} (r : ∀ β H, RV K β H w v) : SE K Cl E (tC v) (mC w) := fun β H σ s st Q hr hs h => PoG.val h hr (r β H)
theorem je_int {i j} : JE X Cl E (.Constant (.int i) j pos) (mC (.int i)) := ⟨_, pe_int, se_c fun _ _ => .int i⟩
theorem je_bl {b j} : JE X Cl E (.Constant (.bool b) j pos) (mC (.bl b)) := ⟨_, pe_bl, se_c fun _ _ => .bl b⟩
theorem je_non {j} : JE X Cl E (.Constant .none j pos) (mC .non) := ⟨_, pe_non, se_c fun _ _ => .non⟩
theorem je_str {x j} : JE X Cl E (.Constant (.str x) j pos) (mC (.str x)) := ⟨_, pe_str, se_c fun _ _ => .str x⟩
/-- a constant of the module: what its name holds -/
structure GC (K : PySem.W.Frag) (mg : Str → Option Value) (x : Str) (w : W) : Prop where
  ex : ∃ u v, mg x = some u ∧ RelV v u ∧ ∀ β H, RV K β H w v
theorem je_glob {x : Str} {w : W} (g : GC X.K X.mg x w) (hg : Gl X x := by rfl) (hd : (x == ("__debug__" : Str)) = false := by decide) : JE X Cl E (.Name x pos) (mC w) := by
  obtain ⟨u, v, hm, r, hv⟩ := g.ex
  exact ⟨_, pe_glob hg hm r hd, se_c hv⟩
end

/-! ### operators -/
abbrev M2 := W → W → Sto → Out W
@[simp] def mOp (r : M2) (a b : ME) : ME := fun s st => (a s st).bind fun x st1 => (b s st1).bind fun y st2 => r x y st2
@[simp] def mUn (r : W → Sto → Out W) (a : ME) : ME := fun s st => (a s st).bind fun x st1 => r x st1
def SOp (K : PySem.W.Frag) (Cl : Nat → Addr) (E : XK) (r : R2) (m : M2) : Prop :=
  ∀ β H st x y v u Q, HR K Cl β H st → RV K β H x v → RV K β H y u → Po K Cl E β H Q (m x y st) → r v u H Q
def SUn (K : PySem.W.Frag) (Cl : Nat → Addr) (E : XK) (r : V → Hp → VK → Prop) (m : W → Sto → Out W) : Prop :=
  ∀ β H st x v Q, HR K Cl β H st → RV K β H x v → Po K Cl E β H Q (m x st) → r v H Q
section
variable {X : Cx} {Cl : Nat → Addr} {E : XK} {pos : Pos} {K : PySem.W.Frag} {ta tb : TE} {ma mb : ME} {a b : Expr}
theorem se_op {r : R2} {m : M2} (hm : SOp K Cl E r m) (ha : SE K Cl E ta ma) (hb : SE K Cl E tb mb) : SE K Cl E (tOp r ta tb) (mOp m ma mb) := fun β H σ s st Q hr hs h =>
  ha β H σ s st _ hr hs (h.bind fun x st1 β1 H1 v _ e1 hr1 rx h1 => hb β1 H1 σ s st1 _ hr1 (hs.ext e1) (h1.bind fun y st2 β2 H2 u _ e2 hr2 ry h2 => hm β2 H2 st2 x y v u Q hr2 (rx.ext e2) ry h2))
theorem se_un {r : V → Hp → VK → Prop} {m : W → Sto → Out W} (hm : SUn K Cl E r m) (ha : SE K Cl E ta ma) : SE K Cl E (tUn r ta) (mUn m ma) := fun β H σ s st Q hr hs h =>
  ha β H σ s st _ hr hs (h.bind fun x st1 β1 H1 v _ e1 hr1 rx h1 => hm β1 H1 st1 x v Q hr1 rx h1)
theorem je_op {op : Operator} {r : R2} {m : M2} (ho : OpR X (binaryOp op) r ∧ SOp X.K Cl E r m) (ha : JE X Cl E a ma) (hb : JE X Cl E b mb) : JE X Cl E (.BinOp a op b pos) (mOp m ma mb) := by
  obtain ⟨_, p1, q1⟩ := ha.ex
  obtain ⟨_, p2, q2⟩ := hb.ex
  exact ⟨_, pe_op ho.1 p1 p2, se_op ho.2 q1 q2⟩
theorem je_un {op : UnaryOp} {r : V → Hp → VK → Prop} {m : W → Sto → Out W} (ho : UnR X (unaryOp op) r ∧ SUn X.K Cl E r m) (ha : JE X Cl E a ma) : JE X Cl E (.UnaryOp op a pos) (mUn m ma) := by
  obtain ⟨_, p1, q1⟩ := ha.ex
  exact ⟨_, pe_un ho.1 p1, se_un ho.2 q1⟩
theorem je_cmp {op : CmpOp} {r : R2} {m : M2} (ho : OpR X (compareOp op) r ∧ SOp X.K Cl E r m) (ha : JE X Cl E a ma) (hb : JE X Cl E b mb) (hm : behindInMarks op b = false) : JE X Cl E (.Compare a [op] [b] pos) (mOp m ma mb) := by
  obtain ⟨_, p1, q1⟩ := ha.ex
  obtain ⟨_, p2, q2⟩ := hb.ex
  exact ⟨_, pe_cmpR ho.1 p1 p2 hm, se_op ho.2 q1 q2⟩
/-- a bool as a test -/
@[simp] def mTest (m : ME) : MT := fun s st => (m s st).bind fun x st1 => match x with
  | .bl k => .ok k st1
  | _ => .stuck
theorem st_test {t : TE} {m : ME} (h : SE K Cl E t m) : ST K Cl E (tTest t) (mTest m) := fun β H σ s st Q hr hs hp => h β H σ s st _ hr hs (hp.bind fun x st1 β1 H1 v _ e1 hr1 rx h1 => by
  cases x with
  | bl k => cases rx; exact ⟨k, rfl, PoG.val h1 hr1 rfl⟩
  | _ => exact h1.elim)
theorem jt_cmp {op : CmpOp} {r : R2} {m : M2} (ho : OpR X (compareOp op) r ∧ SOp X.K Cl E r m) (ha : JE X Cl E a ma) (hb : JE X Cl E b mb) (hm : behindInMarks op b = false) : JT X Cl E (.Compare a [op] [b] pos) (mTest (mOp m ma mb)) := by
  obtain ⟨_, p1, q1⟩ := ha.ex
  obtain ⟨_, p2, q2⟩ := hb.ex
  exact ⟨_, pt_cmpR ho.1 p1 p2 hm, st_test (se_op ho.2 q1 q2)⟩
/-- a value's truth as a test -/
@[simp] def mTru (m : ME) : MT := fun s st => (m s st).bind fun x st1 => match truth x st1 with
  | some k => .ok k st1
  | none => .stuck
theorem jt_tru (ha : JE X Cl E a ma) (he : ∀ whole, isTrue a X.env whole = (do let v ← whole; standAt a.pos; holding [v] (truthy v)) := by intro _; rfl) : JT X Cl E a (mTru ma) := by
  obtain ⟨t, p1, q1⟩ := ha.ex
  refine ⟨_, pt_truth p1 he, fun β H σ s st Q hr hs hp => q1 β H σ s st _ hr hs (hp.bind fun x st1 β1 H1 v _ e1 hr1 rx h1 => ?_)⟩
  split at h1
  · rename_i k e
    exact ⟨k, truth_ok hr1 rx e, PoG.val h1 hr1 rfl⟩
  · exact h1.elim
/-- a < b < c -/
@[simp] def mChain (r r' : M2) (a b c : ME) : ME := fun s st => (a s st).bind fun x st1 => (b s st1).bind fun y st2 => (r x y st2).bind fun z st3 => match z with
  | .bl true => (c s st3).bind fun w st4 => r' y w st4
  | .bl false => .ok (.bl false) st3
  | _ => .stuck
theorem se_chain {r r' : R2} {m m' : M2} {tc : TE} {mc : ME} (hm : SOp K Cl E r m) (hm' : SOp K Cl E r' m') (ha : SE K Cl E ta ma) (hb : SE K Cl E tb mb) (hc : SE K Cl E tc mc) : SE K Cl E (tChain r r' ta tb tc) (mChain m m' ma mb mc) := fun β H σ s st Q hr hs h =>
  ha β H σ s st _ hr hs (h.bind fun x st1 β1 H1 v _ e1 hr1 rx h1 => hb β1 H1 σ s st1 _ hr1 (hs.ext e1) (h1.bind fun y st2 β2 H2 u _ e2 hr2 ry h2 => hm β2 H2 st2 x y v u _ hr2 (rx.ext e2) ry (h2.bind fun z st3 β3 H3 zv _ e3 hr3 rz h3 => by
    cases z with
    | bl k =>
      cases rz
      refine ⟨k, rfl, ?_⟩
      cases k with
      | true => exact hc β3 H3 σ s st3 _ hr3 ((hs.ext e1).ext (e2.trans e3)) (h3.bind fun w st4 β4 H4 wv _ e4 hr4 rw h4 => hm' β4 H4 st4 y w u wv Q hr4 (ry.ext (e3.trans e4)) rw h4)
      | false => exact PoG.val h3 hr3 (.bl false)
    | _ => exact h3.elim)))
theorem je_chain {op op' : CmpOp} {r r' : R2} {m m' : M2} {c : Expr} {mc : ME} (ho : OpR X (compareOp op) r ∧ SOp X.K Cl E r m) (ho' : OpR X (compareOp op') r' ∧ SOp X.K Cl E r' m') (ha : JE X Cl E a ma) (hb : JE X Cl E b mb) (hc : JE X Cl E c mc) (hl : lastMarks [op, op'] [b, c] = false := by rfl) : JE X Cl E (.Compare a [op, op'] [b, c] pos) (mChain m m' ma mb mc) := by
  obtain ⟨_, p1, q1⟩ := ha.ex
  obtain ⟨_, p2, q2⟩ := hb.ex
  obtain ⟨_, p3, q3⟩ := hc.ex
  exact ⟨_, pe_chain ho.1 ho'.1 p1 p2 p3 (hm := hl), se_chain ho.2 ho'.2 q1 q2 q3⟩
end

/-! ### the operations by values -/
@[simp] def mAdd : M2 := fun x y st => match x, y with
  | .int i, .int j => .ok (.int (i + j)) st
  | .str a, .str b => if a.length + b.length ≤ sizeLine then .ok (.str (a ++ b)) st else .stuck
  | .tup a, .tup b => if a.length + b.length ≤ sizeLine then .ok (.tup (a ++ b)) st else .stuck
  | x, y => match asLM x st, asLM y st with
    | some a, some b => if a.length + b.length ≤ sizeLine then .ok (.lst (a ++ b)) st else .stuck
    | _, _ => .stuck
@[simp] def mSub : M2 := fun x y st => match x, y with
  | .int i, .int j => .ok (.int (i - j)) st
  | _, _ => .stuck
@[simp] def mulOk (i j : Int) : Bool := decide (i.natAbs < 2 ^ 64) || decide (j.natAbs < 2 ^ 64) || decide (i.natAbs.log2 + j.natAbs.log2 < 1000000)
@[simp] def mMul : M2 := fun x y st => match x, y with
  | .int i, .int j => if mulOk i j = true then .ok (.int (i * j)) st else .stuck
  | x, .int k => match asLM x st with
    | some a => if -(2 ^ 63) ≤ k ∧ k < 2 ^ 63 ∧ a.length * k.toNat ≤ sizeLine then .ok (.lst (List.replicate k.toNat a).flatten) st else .stuck
    | none => .stuck
  | _, _ => .stuck
@[simp] def mFdiv : M2 := fun x y st => match x, y with
  | .int i, .int j => if 0 < j ∧ j.natAbs.log2 < 9000 then .ok (.int (i / j)) st else .stuck
  | _, _ => .stuck
@[simp] def mMod : M2 := fun x y st => match x, y with
  | .int i, .int j => if 0 < j then .ok (.int (i % j)) st else .stuck
  | _, _ => .stuck
@[simp] def mPow : M2 := fun x y st => match x, y with
  | .int i, .int j => if 0 ≤ j ∧ j ≤ 1000000 ∧ i.natAbs < 2 ^ 64 then .ok (.int (i ^ j.toNat)) st else .stuck
  | _, _ => .stuck
@[simp] def mShl : M2 := fun x y st => match x, y with
  | .int i, .int j => if 0 ≤ j ∧ j ≤ 1000000 ∧ i.natAbs < 2 ^ 64 then .ok (.int (i * 2 ^ j.toNat)) st else .stuck
  | _, _ => .stuck
@[simp] def mShr : M2 := fun x y st => match x, y with
  | .int i, .int j => if 0 ≤ j then .ok (.int (i / 2 ^ j.toNat)) st else .stuck
  | _, _ => .stuck
@[simp] def mXor : M2 := fun x y st => match x, y with
  | .int i, .int j => .ok (.int (Builtin.bitXor i j)) st
  | _, _ => .stuck
@[simp] def mLt : M2 := fun x y st => match x, y with
  | .int i, .int j => .ok (.bl (decide (i < j))) st
  | _, _ => .stuck
@[simp] def mLe : M2 := fun x y st => match x, y with
  | .int i, .int j => .ok (.bl (decide (i ≤ j))) st
  | _, _ => .stuck
@[simp] def mGt : M2 := fun x y st => match x, y with
  | .int i, .int j => .ok (.bl (decide (j < i))) st
  | _, _ => .stuck
@[simp] def mGe : M2 := fun x y st => match x, y with
  | .int i, .int j => .ok (.bl (decide (j ≤ i))) st
  | _, _ => .stuck
@[simp] def mEq : M2 := fun x y st => match toPyS x st, toPyS y st with
  | some d, some e => if SeqAt.shaped d = true ∧ SeqAt.shaped e = true then .ok (.bl (PyData.eqv d e)) st else .stuck
  | _, _ => .stuck
@[simp] def mNe : M2 := fun x y st => match toPyS x st, toPyS y st with
  | some d, some e => if SeqAt.shaped d = true ∧ SeqAt.shaped e = true then .ok (.bl (!PyData.eqv d e)) st else .stuck
  | _, _ => .stuck
/-- is x in y -/
@[simp] def isIn (x y : W) (st : Sto) : Option Bool := match x, y with
  | x, .tup ws => if flatW x = true ∧ ws.all flatW = true then some (inV (toV x) (ws.map toV)) else none
  | .str a, .str b => some (!(Builtin.Str.occurrences b a 0 b.length 1).isEmpty)
  | x, y => match toPyS x st, toPyS y st with
    | some d, some (.list ds) => if SeqAt.shaped d = true ∧ SeqAt.shaped (.list ds) = true then some (ds.any fun z => PyData.eqv z d) else none
    | _, _ => none
@[simp] def mIn : M2 := fun x y st => match isIn x y st with
  | some b => .ok (.bl b) st
  | none => .stuck
@[simp] def mNotIn : M2 := fun x y st => match isIn x y st with
  | some b => .ok (.bl (!b)) st
  | none => .stuck
@[simp] def nonW (w : W) (st : Sto) : Option Bool := match w with
  | .non => some true
  | .ref i => match st[i]? with
    | some .dead => none
    | some _ => some false
    | none => none
  | _ => some false
@[simp] def mIsN : M2 := fun x y st => match y, nonW x st with
  | .non, some b => .ok (.bl b) st
  | _, _ => .stuck
@[simp] def mNotN : M2 := fun x y st => match y, nonW x st with
  | .non, some b => .ok (.bl (!b)) st
  | _, _ => .stuck
@[simp] def mIsB : M2 := fun x y st => match x, y with
  | .bl a, .bl b => .ok (.bl (decide (a = b))) st
  | _, _ => .stuck
@[simp] def mNotB : M2 := fun x y st => match x, y with
  | .bl a, .bl b => .ok (.bl (!decide (a = b))) st
  | _, _ => .stuck

theorem SOp.or1 {K : PySem.W.Frag} {Cl : Nat → Addr} {E : XK} {r r' : R2} {m : M2} (h : ∀ β H st x y v u Q, HR K Cl β H st → RV K β H x v → RV K β H y u → Po K Cl E β H Q (m x y st) → r v u H Q ∨ r' v u H Q) : SOp K Cl E (fun x y H Q => r x y H Q ∨ r' x y H Q) m := h

section
variable {X : Cx} {Cl : Nat → Addr} {E : XK}
theorem RV.new {K : PySem.W.Frag} {β : Bt} {H : Hp} {p : Addr} {ws : List W} {vs : List V} {st : Sto} (hr : HR K Cl β H st) (hp : H p = none) (r : RVs K β H ws vs) : RV K β (upd H p (.lst vs)) (.lst ws) (.ref p) :=
  .lst upd_same (hr.fresh hp) (r.ext (Ext.new hp))
theorem RV.newT {K : PySem.W.Frag} {β : Bt} {H : Hp} {p : Addr} {ws : List W} {vs : List V} (hp : H p = none) (r : RVs K β H ws vs) : RV K β (upd H p (.tup vs)) (.tup ws) (.ref p) :=
  .tup (SqT.of upd_same) (r.ext (Ext.new hp))
theorem Po.lst {K : PySem.W.Frag} {β : Bt} {H : Hp} {p : Addr} {ws : List W} {vs : List V} {st : Sto} {Q : VK} (h : Po K Cl E β H Q (.ok (.lst ws) st)) (hr : HR K Cl β H st) (hp : H p = none) (r : RVs K β H ws vs) : Q (.ref p) (upd H p (.lst vs)) :=
  h β _ _ (Ext.new hp) (hr.new hp) (RV.new hr hp r)
theorem Po.tup {K : PySem.W.Frag} {β : Bt} {H : Hp} {p : Addr} {ws : List W} {vs : List V} {st : Sto} {Q : VK} (h : Po K Cl E β H Q (.ok (.tup ws) st)) (hr : HR K Cl β H st) (hp : H p = none) (r : RVs K β H ws vs) : Q (.ref p) (upd H p (.tup vs)) :=
  h β _ _ (Ext.new hp) (hr.new hp) (RV.newT hp r)

theorem o_add : OpR X (binaryOp .Add) (fun x y H Q => rI0 (fun i j => .int (i + j)) x y H Q ∨ (∃ i j, x = .str i ∧ y = .str j ∧ i.length + j.length ≤ sizeLine ∧ Q (.str (i ++ j)) H) ∨ rCatA X.K x y H Q ∨ rCat x y H Q) ∧
    SOp X.K Cl E (fun x y H Q => rI0 (fun i j => .int (i + j)) x y H Q ∨ (∃ i j, x = .str i ∧ y = .str j ∧ i.length + j.length ≤ sizeLine ∧ Q (.str (i ++ j)) H) ∨ rCatA X.K x y H Q ∨ rCat x y H Q) mAdd := by
  refine ⟨op_add.or (op_add_str.or (op_catA.or op_cat)), fun β H st x y v u Q hr rx ry h => ?_⟩
  unfold mAdd at h
  split at h
  · cases rx; cases ry
    exact .inl ⟨_, _, rfl, rfl, PoG.val h hr (.int _)⟩
  · split at h
    · cases rx; cases ry
      exact .inr (.inl ⟨_, _, rfl, rfl, by assumption, PoG.val h hr (.str _)⟩)
    · exact h.elim
  · split at h
    · rename_i hz
      cases rx with
      | tup h1 r1 =>
        cases ry with
        | tup h2 r2 =>
          rename_i p vs q us
          refine .inr (.inr (.inl ⟨p, q, vs, us, rfl, rfl, h1, h2, by rw [← r1.length, ← r2.length]; exact hz, fun e => ?_, fun _ e => ?_, fun _ _ l hl => Po.tup h hr hl (r1.append r2)⟩))
          · subst e
            cases r1
            exact PoG.val h hr (.tup h2 r2)
          · subst e
            cases r2
            rw [List.append_nil] at h
            exact PoG.val h hr (.tup h1 r1)
    · exact h.elim
  · split at h
    · split at h
      · rename_i e1 e2 hz
        obtain ⟨p, vs, rfl, h1, r1⟩ := asLM_ok hr rx e1
        obtain ⟨q, us, rfl, h2, r2⟩ := asLM_ok hr ry e2
        exact .inr (.inr (.inr ⟨p, q, vs, us, rfl, rfl, h1, h2, by rw [← r1.length, ← r2.length]; exact hz, fun l hl => Po.lst h hr hl (r1.append r2)⟩))
      · exact h.elim
    · exact h.elim
theorem o_sub : OpR X (binaryOp .Sub) (rI0 fun i j => .int (i - j)) ∧ SOp X.K Cl E (rI0 fun i j => .int (i - j)) mSub := by
  refine ⟨op_sub, fun β H st x y v u Q hr rx ry h => ?_⟩
  unfold mSub at h
  split at h
  · cases rx; cases ry
    exact ⟨_, _, rfl, rfl, PoG.val h hr (.int _)⟩
  · exact h.elim
theorem o_mul : OpR X (binaryOp .Mult) (fun x y H Q => rI CMul (fun i j => .int (i * j)) x y H Q ∨ rI CMulW (fun i j => .int (i * j)) x y H Q ∨ rRep x y H Q) ∧
    SOp X.K Cl E (fun x y H Q => rI CMul (fun i j => .int (i * j)) x y H Q ∨ rI CMulW (fun i j => .int (i * j)) x y H Q ∨ rRep x y H Q) mMul := by
  refine ⟨op_mul.or (op_mulW.or op_rep), fun β H st x y v u Q hr rx ry h => ?_⟩
  unfold mMul at h
  split at h
  · split at h
    · rename_i hz
      cases rx; cases ry
      simp only [mulOk, Bool.or_eq_true, decide_eq_true_eq] at hz
      rcases hz with (hz | hz) | hz
      · exact .inl ⟨_, _, rfl, rfl, .inl (by omega), PoG.val h hr (.int _)⟩
      · exact .inl ⟨_, _, rfl, rfl, .inr (by omega), PoG.val h hr (.int _)⟩
      · exact .inr (.inl ⟨_, _, rfl, rfl, hz, PoG.val h hr (.int _)⟩)
    · exact h.elim
  · split at h
    · split at h
      · rename_i e1 hz
        obtain ⟨p, vs, rfl, h1, r1⟩ := asLM_ok hr rx e1
        cases ry
        exact .inr (.inr ⟨p, _, vs, rfl, rfl, h1, hz.1, hz.2.1, by rw [← r1.length]; exact hz.2.2, fun l hl => Po.lst h hr hl (r1.rep _)⟩)
      · exact h.elim
    · exact h.elim
  · exact h.elim
theorem sop_int {C : Int → Int → Prop} {g : Int → Int → V} {m : M2} {K : PySem.W.Frag} (h : ∀ x y st, (∃ i j o w, x = .int i ∧ y = .int j ∧ C i j ∧ m x y st = .ok w o ∧ o = st ∧ ∀ β H, RV K β H w (g i j)) ∨ m x y st = .stuck) : SOp K Cl E (rI C g) m := fun β H st x y v u Q hr rx ry hp => by
  rcases h x y st with ⟨i, j, o, w, rfl, rfl, hc, e, rfl, rv⟩ | e
  · rw [e] at hp
    cases rx; cases ry
    exact ⟨i, j, rfl, rfl, hc, PoG.val hp hr (rv β H)⟩
  · rw [e] at hp
    exact hp.elim
theorem sop_int0 {g : Int → Int → V} {m : M2} {K : PySem.W.Frag} (h : ∀ x y st, (∃ i j o w, x = .int i ∧ y = .int j ∧ m x y st = .ok w o ∧ o = st ∧ ∀ β H, RV K β H w (g i j)) ∨ m x y st = .stuck) : SOp K Cl E (rI0 g) m := fun β H st x y v u Q hr rx ry hp => by
  rcases h x y st with ⟨i, j, o, w, rfl, rfl, e, rfl, rv⟩ | e
  · rw [e] at hp
    cases rx; cases ry
    exact ⟨i, j, rfl, rfl, PoG.val hp hr (rv β H)⟩
  · rw [e] at hp
    exact hp.elim
theorem o_fdiv : OpR X (binaryOp .FloorDiv) (rI CDivW fun i j => .int (i / j)) ∧ SOp X.K Cl E (rI CDivW fun i j => .int (i / j)) mFdiv := by
  refine ⟨op_fdivW, sop_int fun x y st => ?_⟩
  unfold mFdiv
  split
  · split
    · exact .inl ⟨_, _, _, _, rfl, rfl, by assumption, rfl, rfl, fun _ _ => .int _⟩
    · exact .inr rfl
  · exact .inr rfl
theorem o_mod : OpR X (binaryOp .Mod) (rI (fun _ j => 0 < j) fun i j => .int (i % j)) ∧ SOp X.K Cl E (rI (fun _ j => 0 < j) fun i j => .int (i % j)) mMod := by
  refine ⟨op_mod, sop_int fun x y st => ?_⟩
  unfold mMod
  split
  · split
    · exact .inl ⟨_, _, _, _, rfl, rfl, by assumption, rfl, rfl, fun _ _ => .int _⟩
    · exact .inr rfl
  · exact .inr rfl
theorem o_pow : OpR X (binaryOp .Pow) (rI CPow fun i j => .int (i ^ j.toNat)) ∧ SOp X.K Cl E (rI CPow fun i j => .int (i ^ j.toNat)) mPow := by
  refine ⟨op_pow, sop_int fun x y st => ?_⟩
  unfold mPow
  split
  · split
    · exact .inl ⟨_, _, _, _, rfl, rfl, by assumption, rfl, rfl, fun _ _ => .int _⟩
    · exact .inr rfl
  · exact .inr rfl
theorem o_shl : OpR X (binaryOp .LShift) (rI CPow fun i j => .int (i * 2 ^ j.toNat)) ∧ SOp X.K Cl E (rI CPow fun i j => .int (i * 2 ^ j.toNat)) mShl := by
  refine ⟨op_shl, sop_int fun x y st => ?_⟩
  unfold mShl
  split
  · split
    · exact .inl ⟨_, _, _, _, rfl, rfl, by assumption, rfl, rfl, fun _ _ => .int _⟩
    · exact .inr rfl
  · exact .inr rfl
theorem o_shr : OpR X (binaryOp .RShift) (rI (fun _ j => 0 ≤ j) fun i j => .int (i / 2 ^ j.toNat)) ∧ SOp X.K Cl E (rI (fun _ j => 0 ≤ j) fun i j => .int (i / 2 ^ j.toNat)) mShr := by
  refine ⟨op_shr, sop_int fun x y st => ?_⟩
  unfold mShr
  split
  · split
    · exact .inl ⟨_, _, _, _, rfl, rfl, by assumption, rfl, rfl, fun _ _ => .int _⟩
    · exact .inr rfl
  · exact .inr rfl
theorem o_xor : OpR X (binaryOp .BitXor) (rI0 fun i j => .int (Builtin.bitXor i j)) ∧ SOp X.K Cl E (rI0 fun i j => .int (Builtin.bitXor i j)) mXor := by
  refine ⟨op_xor, sop_int0 fun x y st => ?_⟩
  unfold mXor
  split
  · exact .inl ⟨_, _, _, _, rfl, rfl, rfl, rfl, fun _ _ => .int _⟩
  · exact .inr rfl
theorem o_lt : OpR X (compareOp .Lt) (rI0 fun i j => .bl (decide (i < j))) ∧ SOp X.K Cl E (rI0 fun i j => .bl (decide (i < j))) mLt := by
  refine ⟨op_lt, sop_int0 fun x y st => ?_⟩
  unfold mLt
  split
  · exact .inl ⟨_, _, _, _, rfl, rfl, rfl, rfl, fun _ _ => .bl _⟩
  · exact .inr rfl
theorem o_le : OpR X (compareOp .LtE) (rI0 fun i j => .bl (decide (i ≤ j))) ∧ SOp X.K Cl E (rI0 fun i j => .bl (decide (i ≤ j))) mLe := by
  refine ⟨op_le, sop_int0 fun x y st => ?_⟩
  unfold mLe
  split
  · exact .inl ⟨_, _, _, _, rfl, rfl, rfl, rfl, fun _ _ => .bl _⟩
  · exact .inr rfl
theorem o_gt : OpR X (compareOp .Gt) (rI0 fun i j => .bl (decide (j < i))) ∧ SOp X.K Cl E (rI0 fun i j => .bl (decide (j < i))) mGt := by
  refine ⟨op_gt, sop_int0 fun x y st => ?_⟩
  unfold mGt
  split
  · exact .inl ⟨_, _, _, _, rfl, rfl, rfl, rfl, fun _ _ => .bl _⟩
  · exact .inr rfl
theorem o_ge : OpR X (compareOp .GtE) (rI0 fun i j => .bl (decide (j ≤ i))) ∧ SOp X.K Cl E (rI0 fun i j => .bl (decide (j ≤ i))) mGe := by
  refine ⟨op_ge, sop_int0 fun x y st => ?_⟩
  unfold mGe
  split
  · exact .inl ⟨_, _, _, _, rfl, rfl, rfl, rfl, fun _ _ => .bl _⟩
  · exact .inr rfl
theorem o_eq (hu : X.A.units + 65 < cLine) : OpR X (compareOp .Eq) (rEqD X.K) ∧ SOp X.K Cl E (rEqD X.K) mEq := by
  refine ⟨op_eqD (by omega), fun β H st x y v u Q hr rx ry h => ?_⟩
  unfold mEq at h
  split at h
  · rename_i d e h1 h2
    split at h
    · rename_i hz
      exact ⟨d, e, toPyS_dp hr rx h1, toPyS_dp hr ry h2, hz.1, hz.2, PoG.val h hr (.bl _)⟩
    · exact h.elim
  · exact h.elim
theorem o_ne (hu : X.A.units + 65 < cLine) : OpR X (compareOp .NotEq) (rNeD X.K) ∧ SOp X.K Cl E (rNeD X.K) mNe := by
  refine ⟨op_neD (by omega), fun β H st x y v u Q hr rx ry h => ?_⟩
  unfold mNe at h
  split at h
  · rename_i d e h1 h2
    split at h
    · rename_i hz
      exact ⟨d, e, toPyS_dp hr rx h1, toPyS_dp hr ry h2, hz.1, hz.2, PoG.val h hr (.bl _)⟩
    · exact h.elim
  · exact h.elim
def rInA (K : PySem.W.Frag) : R2 := fun x y H Q => rIn K false x y H Q ∨ (∃ i j, x = .str i ∧ y = .str j ∧ Q (.bl (!(Builtin.Str.occurrences j i 0 j.length 1).isEmpty)) H) ∨ rInD K x y H Q
def rNotInA (K : PySem.W.Frag) : R2 := fun x y H Q => rIn K true x y H Q ∨ (∃ i j, x = .str i ∧ y = .str j ∧ Q (.bl (!(!(Builtin.Str.occurrences j i 0 j.length 1).isEmpty))) H) ∨ rNotInD K x y H Q
theorem isIn_ok {K : PySem.W.Frag} {β : Bt} {H : Hp} {st : Sto} {x y : W} {v u : V} {b : Bool} (hr : HR K Cl β H st) (rx : RV K β H x v) (ry : RV K β H y u) (h : isIn x y st = some b) :
    (∃ p xs, u = .ref p ∧ (SqL K H p xs ∨ SqT K H p xs) ∧ flatV v = true ∧ xs.all flatV = true ∧ inV v xs = b) ∨ (∃ i j, v = .str i ∧ u = .str j ∧ (!(Builtin.Str.occurrences j i 0 j.length 1).isEmpty) = b) ∨
      (∃ d ds, Dp K H v d ∧ Dp K H u (.list ds) ∧ SeqAt.shaped d = true ∧ SeqAt.shaped (.list ds) = true ∧ (ds.any fun z => PyData.eqv z d) = b) := by
  unfold isIn at h
  split at h
  · split at h
    · rename_i hz
      cases h
      cases ry with
      | tup h1 r1 =>
        obtain ⟨e, f⟩ := flat_v rx hz.1
        obtain ⟨e', f'⟩ := flat_vs r1 hz.2
        subst e e'
        exact .inl ⟨_, _, rfl, .inr h1, f, f', rfl⟩
    · cases h
  · cases h
    cases rx; cases ry
    exact .inr (.inl ⟨_, _, rfl, rfl, rfl⟩)
  · split at h
    · rename_i h1 h2
      split at h
      · rename_i hz
        cases h
        exact .inr (.inr ⟨_, _, toPyS_dp hr rx h1, toPyS_dp hr ry h2, hz.1, hz.2, rfl⟩)
      · cases h
    · cases h
theorem o_in (hu : X.A.units + 65 < cLine) : OpR X (compareOp .In) (rInA X.K) ∧ SOp X.K Cl E (rInA X.K) mIn := by
  refine ⟨op_in_seq.or (op_in_str.or (op_inD hu)), fun β H st x y v u Q hr rx ry h => ?_⟩
  unfold mIn at h
  split at h
  · rename_i b e
    rcases isIn_ok hr rx ry e with ⟨p, xs, e1, e2, e3, e4, e5⟩ | ⟨i, j, e1, e2, e3⟩ | ⟨d, ds, e1, e2, e3, e4, e5⟩
    · exact .inl ⟨p, xs, e1, e2, e3, e4, by rw [if_neg Bool.false_ne_true, e5]; exact PoG.val h hr (.bl b)⟩
    · exact .inr (.inl ⟨i, j, e1, e2, by rw [e3]; exact PoG.val h hr (.bl b)⟩)
    · exact .inr (.inr ⟨d, ds, e1, e2, e3, e4, by rw [e5]; exact PoG.val h hr (.bl b)⟩)
  · exact h.elim
theorem o_notIn (hu : X.A.units + 65 < cLine) : OpR X (compareOp .NotIn) (rNotInA X.K) ∧ SOp X.K Cl E (rNotInA X.K) mNotIn := by
  refine ⟨op_notIn_seq.or (op_notin_str.or (op_notInD hu)), fun β H st x y v u Q hr rx ry h => ?_⟩
  unfold mNotIn at h
  split at h
  · rename_i b e
    rcases isIn_ok hr rx ry e with ⟨p, xs, e1, e2, e3, e4, e5⟩ | ⟨i, j, e1, e2, e3⟩ | ⟨d, ds, e1, e2, e3, e4, e5⟩
    · exact .inl ⟨p, xs, e1, e2, e3, e4, by rw [if_pos rfl, e5]; exact PoG.val h hr (.bl _)⟩
    · exact .inr (.inl ⟨i, j, e1, e2, by rw [e3]; exact PoG.val h hr (.bl _)⟩)
    · exact .inr (.inr ⟨d, ds, e1, e2, e3, e4, by rw [e5]; exact PoG.val h hr (.bl _)⟩)
  · exact h.elim
theorem nonW_ok {K : PySem.W.Frag} {β : Bt} {H : Hp} {st : Sto} {x : W} {v : V} {b : Bool} (hr : HR K Cl β H st) (rx : RV K β H x v) (h : nonW x st = some b) : decide (v = .non) = b := by
  cases x with
  | ref i =>
    simp only [nonW] at h
    split at h
    · cases h
    · rename_i ob hd e
      cases h
      obtain ⟨a, rfl, _⟩ := rx.atRef hr e hd
      rfl
    · cases h
  | _ => cases h; cases rx; rfl
theorem o_isN : OpR X (compareOp .Is) (fun x y H Q => y = .non ∧ Q (.bl (decide (x = .non))) H) ∧ SOp X.K Cl E (fun x y H Q => y = .non ∧ Q (.bl (decide (x = .non))) H) mIsN := by
  refine ⟨op_isN, fun β H st x y v u Q hr rx ry h => ?_⟩
  unfold mIsN at h
  split at h
  · rename_i b e
    cases ry
    exact ⟨rfl, by rw [nonW_ok hr rx e]; exact PoG.val h hr (.bl b)⟩
  · exact h.elim
theorem o_notN : OpR X (compareOp .IsNot) (fun x y H Q => y = .non ∧ Q (.bl (!decide (x = .non))) H) ∧ SOp X.K Cl E (fun x y H Q => y = .non ∧ Q (.bl (!decide (x = .non))) H) mNotN := by
  refine ⟨op_notN, fun β H st x y v u Q hr rx ry h => ?_⟩
  unfold mNotN at h
  split at h
  · rename_i b e
    cases ry
    exact ⟨rfl, by rw [nonW_ok hr rx e]; exact PoG.val h hr (.bl _)⟩
  · exact h.elim
theorem o_isB : OpR X (compareOp .Is) rIsB ∧ SOp X.K Cl E rIsB mIsB := by
  refine ⟨op_isBl, fun β H st x y v u Q hr rx ry h => ?_⟩
  unfold mIsB at h
  split at h
  · cases rx; cases ry
    exact ⟨_, _, rfl, rfl, PoG.val h hr (.bl _)⟩
  · exact h.elim
theorem o_notB : OpR X (compareOp .IsNot) rNotB ∧ SOp X.K Cl E rNotB mNotB := by
  refine ⟨op_notBl, fun β H st x y v u Q hr rx ry h => ?_⟩
  unfold mNotB at h
  split at h
  · cases rx; cases ry
    exact ⟨_, _, rfl, rfl, PoG.val h hr (.bl _)⟩
  · exact h.elim
@[simp] def mNeg : W → Sto → Out W := fun x st => match x with
  | .int i => .ok (.int (-i)) st
  | _ => .stuck
theorem u_neg : UnR X (unaryOp .USub) (rU fun i => .int (-i)) ∧ SUn X.K Cl E (rU fun i => .int (-i)) mNeg := by
  refine ⟨un_neg, fun β H st x v Q hr rx h => ?_⟩
  unfold mNeg at h
  split at h
  · cases rx
    exact ⟨_, rfl, PoG.val h hr (.int _)⟩
  · exact h.elim
end
end Mi
/-! The mirror layer, part D: truth, displays, subscripts, fields, built-in calls, dicts. -/
namespace Mi
open PySem L2

/-! ### and, or, not; a if t else b -/
@[simp] def mAndV (a b : ME) : ME := fun s st => (a s st).bind fun x st1 => match truth x st1 with
  | some true => b s st1
  | some false => .ok x st1
  | none => .stuck
@[simp] def mOrV (a b : ME) : ME := fun s st => (a s st).bind fun x st1 => match truth x st1 with
  | some true => .ok x st1
  | some false => b s st1
  | none => .stuck
@[simp] def mNotV (a : ME) : ME := fun s st => (a s st).bind fun x st1 => match truth x st1 with
  | some k => .ok (.bl (!k)) st1
  | none => .stuck
@[simp] def mTAnd (t u : MT) : MT := fun s st => (t s st).bind fun k st1 => if k = true then u s st1 else .ok false st1
@[simp] def mTOr (t u : MT) : MT := fun s st => (t s st).bind fun k st1 => if k = true then .ok true st1 else u s st1
@[simp] def mTNot (t : MT) : MT := fun s st => (t s st).bind fun k st1 => .ok (!k) st1
@[simp] def mIf (t : MT) (a b : ME) : ME := fun s st => (t s st).bind fun k st1 => if k = true then a s st1 else b s st1
section
variable {X : Cx} {Cl : Nat → Addr} {E : XK} {pos : Pos} {ma mb : ME} {ta tb : MT} {a b c : Expr} {rest : List Expr}
theorem je_one {op} (h : JE X Cl E a ma) : JE X Cl E (.BoolOp op [a] pos) ma := by
  obtain ⟨t, p, q⟩ := h.ex
  exact ⟨t, pe_one p, q⟩
theorem je_and (ha : JE X Cl E a ma) (hb : JE X Cl E (.BoolOp .And (b :: rest) pos) mb) : JE X Cl E (.BoolOp .And (a :: b :: rest) pos) (mAndV ma mb) := by
  obtain ⟨t1, p1, q1⟩ := ha.ex
  obtain ⟨t2, p2, q2⟩ := hb.ex
  refine ⟨_, pe_andT p1 p2, fun β H σ s st Q hr hs h => q1 β H σ s st _ hr hs (h.bind fun x st1 β1 H1 v _ e1 hr1 rx h1 => ?_)⟩
  split at h1
  · rename_i e
    refine ⟨true, truth_ok hr1 rx e, ?_⟩
    rw [if_pos rfl]
    exact q2 β1 H1 σ s st1 Q hr1 (hs.ext e1) h1
  · rename_i e
    refine ⟨false, truth_ok hr1 rx e, ?_⟩
    rw [if_neg Bool.false_ne_true]
    exact PoG.val h1 hr1 rx
  · exact h1.elim
theorem je_or (ha : JE X Cl E a ma) (hb : JE X Cl E (.BoolOp .Or (b :: rest) pos) mb) : JE X Cl E (.BoolOp .Or (a :: b :: rest) pos) (mOrV ma mb) := by
  obtain ⟨t1, p1, q1⟩ := ha.ex
  obtain ⟨t2, p2, q2⟩ := hb.ex
  refine ⟨_, pe_orT p1 p2, fun β H σ s st Q hr hs h => q1 β H σ s st _ hr hs (h.bind fun x st1 β1 H1 v _ e1 hr1 rx h1 => ?_)⟩
  split at h1
  · rename_i e
    refine ⟨true, truth_ok hr1 rx e, ?_⟩
    rw [if_pos rfl]
    exact PoG.val h1 hr1 rx
  · rename_i e
    refine ⟨false, truth_ok hr1 rx e, ?_⟩
    rw [if_neg Bool.false_ne_true]
    exact q2 β1 H1 σ s st1 Q hr1 (hs.ext e1) h1
  · exact h1.elim
theorem je_not (ha : JE X Cl E a ma) : JE X Cl E (.UnaryOp .Not a pos) (mNotV ma) := by
  obtain ⟨t1, p1, q1⟩ := ha.ex
  refine ⟨_, pe_notT p1, fun β H σ s st Q hr hs h => q1 β H σ s st _ hr hs (h.bind fun x st1 β1 H1 v _ e1 hr1 rx h1 => ?_)⟩
  split at h1
  · rename_i k e
    exact ⟨k, truth_ok hr1 rx e, PoG.val h1 hr1 (.bl _)⟩
  · exact h1.elim
theorem jt_w (h : JW X Cl E a ta) : JT X Cl E a ta := by
  obtain ⟨t, p, q⟩ := h.ex
  exact ⟨t, p.pt, q⟩
theorem jw_and1 (h : JT X Cl E a ta) : JW X Cl E (.BoolOp .And [a] pos) ta := by
  obtain ⟨t, p, q⟩ := h.ex
  exact ⟨t, pw_and1 p, q⟩
theorem jw_or1 (h : JT X Cl E a ta) : JW X Cl E (.BoolOp .Or [a] pos) ta := by
  obtain ⟨t, p, q⟩ := h.ex
  exact ⟨t, pw_or1 p, q⟩
theorem jw_and (ha : JT X Cl E a ta) (hb : JW X Cl E (.BoolOp .And (b :: rest) pos) tb) : JW X Cl E (.BoolOp .And (a :: b :: rest) pos) (mTAnd ta tb) := by
  obtain ⟨t1, p1, q1⟩ := ha.ex
  obtain ⟨t2, p2, q2⟩ := hb.ex
  refine ⟨_, pw_and p1 p2, fun β H σ s st Q hr hs h => q1 β H σ s st _ hr hs (h.bind fun x st1 β1 H1 v _ e1 hr1 rx h1 => ?_)⟩
  cases rx
  cases x with
  | true => rw [if_pos rfl] at h1 ⊢; exact q2 β1 H1 σ s st1 Q hr1 (hs.ext e1) h1
  | false => rw [if_neg Bool.false_ne_true] at h1 ⊢; exact PoG.val h1 hr1 rfl
theorem jw_or (ha : JT X Cl E a ta) (hb : JW X Cl E (.BoolOp .Or (b :: rest) pos) tb) : JW X Cl E (.BoolOp .Or (a :: b :: rest) pos) (mTOr ta tb) := by
  obtain ⟨t1, p1, q1⟩ := ha.ex
  obtain ⟨t2, p2, q2⟩ := hb.ex
  refine ⟨_, pw_or p1 p2, fun β H σ s st Q hr hs h => q1 β H σ s st _ hr hs (h.bind fun x st1 β1 H1 v _ e1 hr1 rx h1 => ?_)⟩
  cases rx
  cases x with
  | true => rw [if_pos rfl] at h1 ⊢; exact PoG.val h1 hr1 rfl
  | false => rw [if_neg Bool.false_ne_true] at h1 ⊢; exact q2 β1 H1 σ s st1 Q hr1 (hs.ext e1) h1
theorem jt_not (ha : JT X Cl E a ta) : JT X Cl E (.UnaryOp .Not a pos) (mTNot ta) := by
  obtain ⟨t1, p1, q1⟩ := ha.ex
  refine ⟨_, pt_not p1, fun β H σ s st Q hr hs h => q1 β H σ s st _ hr hs (h.bind fun x st1 β1 H1 v _ e1 hr1 rx h1 => ?_)⟩
  cases rx
  exact PoG.val h1 hr1 rfl
theorem je_if (hc : JT X Cl E c ta) (ha : JE X Cl E a ma) (hb : JE X Cl E b mb) : JE X Cl E (.IfExp c a b pos) (mIf ta ma mb) := by
  obtain ⟨t1, p1, q1⟩ := hc.ex
  obtain ⟨t2, p2, q2⟩ := ha.ex
  obtain ⟨t3, p3, q3⟩ := hb.ex
  refine ⟨_, pe_ifExp p1 p2 p3, fun β H σ s st Q hr hs h => q1 β H σ s st _ hr hs (h.bind fun x st1 β1 H1 v _ e1 hr1 rx h1 => ?_)⟩
  cases rx
  cases x with
  | true => rw [if_pos rfl] at h1 ⊢; exact q2 β1 H1 σ s st1 Q hr1 (hs.ext e1) h1
  | false => rw [if_neg Bool.false_ne_true] at h1 ⊢; exact q3 β1 H1 σ s st1 Q hr1 (hs.ext e1) h1
end

/-! ### argument lists, displays -/
@[simp] def mNil : MA := fun _ st => .ok [] st
@[simp] def mCons (a : ME) (r : MA) : MA := fun s st => (a s st).bind fun x st1 => (r s st1).bind fun xs st2 => .ok (x :: xs) st2
@[simp] def mTup (a : MA) : ME := fun s st => (a s st).bind fun xs st1 => if xs.length ≤ sizeLine then .ok (.tup xs) st1 else .stuck
@[simp] def mLst (a : MA) : ME := fun s st => (a s st).bind fun xs st1 => if xs.length ≤ sizeLine then .ok (.lst xs) st1 else .stuck
/-- a list that will be changed -/
@[simp] def mLstS (a : MA) : ME := fun s st => (a s st).bind fun xs st1 => if xs.length ≤ sizeLine then .ok (.ref st1.length) (st1 ++ [.lst xs]) else .stuck
section
variable {X : Cx} {Cl : Nat → Addr} {E : XK} {pos : Pos} {ma : ME} {mr : MA} {e : Expr} {es : List Expr}
theorem ja_nil : JA X Cl E [] mNil := ⟨_, pa_nil, fun β H σ s st Q hr hs h => PoG.val h hr .nil⟩
theorem ja_cons (ha : JE X Cl E e ma) (hr : JA X Cl E es mr) (hs : starEach (e :: es) X.env = (false, eval e X.env) :: starEach es X.env := by rfl) : JA X Cl E (e :: es) (mCons ma mr) := by
  obtain ⟨t1, p1, q1⟩ := ha.ex
  obtain ⟨t2, p2, q2⟩ := hr.ex
  refine ⟨_, pa_cons p1 p2 hs, fun β H σ s st Q hr hs h => q1 β H σ s st _ hr hs (h.bind fun x st1 β1 H1 v _ e1 hr1 rx h1 => q2 β1 H1 σ s st1 _ hr1 (hs.ext e1) (h1.bind fun y st2 β2 H2 u _ e2 hr2 ry h2 => ?_))⟩
  exact PoG.val h2 hr2 (.cons (rx.ext e2) ry)
theorem je_tup {k} (h : JA X Cl E es mr) : JE X Cl E (.Tuple es k pos) (mTup mr) := by
  obtain ⟨t, p, q⟩ := h.ex
  refine ⟨_, pe_tup p, fun β H σ s st Q hr hs h => q β H σ s st _ hr hs (h.bind fun x st1 β1 H1 v _ e1 hr1 rx h1 => ?_)⟩
  split at h1
  · rename_i hz
    exact ⟨by rw [← rx.length]; exact hz, fun l hl => Po.tup h1 hr1 hl rx⟩
  · exact h1.elim
theorem je_lst (h : JA X Cl E es mr) : JE X Cl E (.List es pos) (mLst mr) := by
  obtain ⟨t, p, q⟩ := h.ex
  refine ⟨_, pe_lst p, fun β H σ s st Q hr hs h => q β H σ s st _ hr hs (h.bind fun x st1 β1 H1 v _ e1 hr1 rx h1 => ?_)⟩
  split at h1
  · rename_i hz
    exact ⟨by rw [← rx.length]; exact hz, fun l hl => Po.lst h1 hr1 hl rx⟩
  · exact h1.elim
theorem Po.lstS {K : PySem.W.Frag} {β : Bt} {H : Hp} {p : Addr} {ws : List W} {vs : List V} {st : Sto} {Q : VK} (h : Po K Cl E β H Q (.ok (.ref st.length) (st ++ [.lst ws]))) (hr : HR K Cl β H st) (hp : H p = none) (r : RVs K β H ws vs) : Q (.ref p) (upd H p (.lst vs)) :=
  h _ _ _ (Ext.push hp) (hr.push hp ⟨vs, upd_same, r.ext (Ext.push hp)⟩) (.ref (by rw [← hr.len]; exact push_last))
theorem je_lstS (h : JA X Cl E es mr) : JE X Cl E (.List es pos) (mLstS mr) := by
  obtain ⟨t, p, q⟩ := h.ex
  refine ⟨_, pe_lst p, fun β H σ s st Q hr hs h => q β H σ s st _ hr hs (h.bind fun x st1 β1 H1 v _ e1 hr1 rx h1 => ?_)⟩
  split at h1
  · rename_i hz
    exact ⟨by rw [← rx.length]; exact hz, fun l hl => Po.lstS h1 hr1 hl rx⟩
  · exact h1.elim
end
/-- a value list becomes an object of the store (it is new: nobody else holds it) -/
@[simp] def mThaw (a : ME) : ME := fun s st => (a s st).bind fun x st1 => match x with
  | .lst ws => .ok (.ref st1.length) (st1 ++ [.lst ws])
  | _ => .stuck
/-- the list of an object of the store becomes a value -/
@[simp] def mFrz (a : ME) : ME := fun s st => (a s st).bind fun x st1 => match x with
  | .ref i => match st1[i]? with
    | some (.lst ws) => .ok (.lst ws) (st1.set i .dead)
    | _ => .stuck
  | _ => .stuck
section
variable {X : Cx} {Cl : Nat → Addr} {E : XK} {ma : ME} {e : Expr}
theorem je_frz (h : JE X Cl E e ma) : JE X Cl E e (mFrz ma) := by
  obtain ⟨t, p, q⟩ := h.ex
  refine ⟨_, p, fun β H σ s st Q hr hs h => q β H σ s st _ hr hs (h.bind fun x st1 β1 H1 v _ e1 hr1 rx h1 => ?_)⟩
  cases x with
  | ref i =>
    simp only at h1
    split at h1
    · rename_i ws e
      obtain ⟨a, rfl, hb, vs, hv, hrs⟩ := rx.atRef hr1 e (by intro z; cases z)
      refine h1 _ _ _ Ext.letgo (hr1.letgo hb) (.lst hv ⟨fun j hj => ?_, fun z => (hr1.prot _ z).2 i hb⟩ (hrs.ext Ext.letgo))
      rcases let_at hj with ⟨_, z⟩ | ⟨ne, z⟩
      · cases z
      · exact ne (hr1.inj j i a z hb)
    · exact h1.elim
  | _ => exact h1.elim
end

/-! ### subscripts, slices -/
theorem atI_map {α γ : Type} {xs : List α} {ys : List γ} (h : xs.length = ys.length) {i : Int} {v : α} (e : atI xs i = some v) : ∃ j : Nat, xs[j]? = some v ∧ ∀ u : γ, ys[j]? = some u → atI ys i = some u := by
  unfold atI at e ⊢
  rw [← h]
  cases hx : ixN xs.length i with
  | none => rw [hx] at e; cases e
  | some j =>
    rw [hx] at e
    exact ⟨j, e, fun u hu => hu⟩
@[simp] def mIx : M2 := fun x y st => match y with
  | .int i => match x with
    | .tup ws => match atI ws i with
      | some w => .ok w st
      | none => .stuck
    | .str z => if z.length ≤ sizeLine then match atI z.cps.toList i with
        | some c => .ok (.str ⟨#[c]⟩) st
        | none => .stuck
      else .stuck
    | x => match asL x st with
      | some ws => match atI ws i with
        | some w => .ok w st
        | none => .stuck
      | none => .stuck
  | _ => .stuck
def cutW (xs : List W) (lo hi : Option Int) : List W := (xs.drop (HT.sIx xs.length 0 lo)).take (HT.sIx xs.length xs.length hi - HT.sIx xs.length 0 lo)
abbrev MO := Slo → Sto → Out (Option Int)
@[simp] def mNoPart : MO := fun _ st => .ok none st
@[simp] def mPart (a : ME) : MO := fun s st => (a s st).bind fun x st1 => match x with
  | .int i => .ok (some i) st1
  | _ => .stuck
@[simp] def cutOf (x : W) (lo hi : Option Int) (st : Sto) : Out W := match x with
  | .tup ws => .ok (.tup (cutW ws lo hi)) st
  | .str z => if z.length ≤ sizeLine then .ok (.str (cutS z lo hi)) st else .stuck
  | x => match asL x st with
    | some ws => .ok (.lst (cutW ws lo hi)) st
    | none => .stuck
@[simp] def mSl (a : ME) (lo hi : MO) : ME := fun s st => (a s st).bind fun x st1 => (lo s st1).bind fun l st2 => (hi s st2).bind fun u st3 => cutOf x l u st3
structure JO (X : Cx) (Cl : Nat → Addr) (E : XK) (e : Option Expr) (m : MO) : Prop where
  ex : ∃ t, PO X e t ∧ ∀ β H σ s st Q, HR X.K Cl β H st → SR X.K β H s σ → PoG X.K Cl (fun _ _ (a b : Option Int) => a = b) E β H Q (m s st) → t σ H Q
section
variable {X : Cx} {Cl : Nat → Addr} {E : XK} {pos p2 : Pos} {ma mb : ME} {a b e : Expr} {ml mh : MO} {lo hi : Option Expr}
theorem je_ix (ha : JE X Cl E a ma) (hb : JE X Cl E b mb) (hs : PlainIx b := by exact fun _ _ => rfl) : JE X Cl E (.Subscript a b pos) (mOp mIx ma mb) := by
  obtain ⟨_, p1, q1⟩ := ha.ex
  obtain ⟨_, p2, q2⟩ := hb.ex
  refine ⟨_, pe_ix ix_seq p1 p2 hs, se_op (fun β H st x y v u Q hr rx ry h => ?_) q1 q2⟩
  unfold mIx at h
  split at h
  · cases ry
    split at h
    · split at h
      · rename_i w e
        cases rx with
        | tup h1 r1 =>
          obtain ⟨j, hj, k⟩ := atI_map r1.length e
          obtain ⟨v, hv, rv⟩ := r1.get hj
          exact .inr (.inl ⟨_, _, _, v, rfl, rfl, h1, k v hv, PoG.val h hr rv⟩)
      · exact h.elim
    · split at h
      · rename_i hz
        split at h
        · rename_i c e
          cases rx
          exact .inr (.inr ⟨_, _, c, rfl, rfl, hz, e, PoG.val h hr (.str _)⟩)
        · exact h.elim
      · exact h.elim
    · split at h
      · rename_i ws el
        split at h
        · rename_i w e
          obtain ⟨p, vs, rfl, h1, r1⟩ := asL_ok hr rx el
          obtain ⟨j, hj, k⟩ := atI_map r1.length e
          obtain ⟨v, hv, rv⟩ := r1.get hj
          exact .inl ⟨p, vs, _, v, rfl, rfl, h1, k v hv, PoG.val h hr rv⟩
        · exact h.elim
      · exact h.elim
  · exact h.elim
theorem jo_none : JO X Cl E none mNoPart := ⟨_, po_none, fun β H σ s st Q hr hs h => PoG.val h hr rfl⟩
theorem jo_some (h : JE X Cl E e ma) : JO X Cl E (some e) (mPart ma) := by
  obtain ⟨t, p, q⟩ := h.ex
  refine ⟨_, po_some p, fun β H σ s st Q hr hs h => q β H σ s st _ hr hs (h.bind fun x st1 β1 H1 v _ e1 hr1 rx h1 => ?_)⟩
  cases x with
  | int i => cases rx; exact ⟨i, rfl, PoG.val h1 hr1 rfl⟩
  | _ => exact h1.elim
theorem RVs.cut {K : PySem.W.Frag} {β : Bt} {H : Hp} {ws : List W} {vs : List V} (r : RVs K β H ws vs) (lo hi : Option Int) : RVs K β H (cutW ws lo hi) (cutV vs lo hi) := by
  unfold cutW cutV
  rw [r.length]
  exact (r.drop _).take _
theorem je_sl (ha : JE X Cl E a ma) (hl : JO X Cl E lo ml) (hh : JO X Cl E hi mh) : JE X Cl E (.Subscript a (.Slice lo hi none p2) pos) (mSl ma ml mh) := by
  obtain ⟨_, p1, q1⟩ := ha.ex
  obtain ⟨_, pl, ql⟩ := hl.ex
  obtain ⟨_, ph, qh⟩ := hh.ex
  refine ⟨_, pe_slice (sl_list.or (sl_tupA.or sl_str)) p1 pl ph, fun β H σ s st Q hr hs h => q1 β H σ s st _ hr hs (h.bind fun x st1 β1 H1 v _ e1 hr1 rx1 h1 => ql β1 H1 σ s st1 _ hr1 (hs.ext e1) (h1.bind fun l st2 β2 H2 l' _ e2 hr2 rl h2 =>
    qh β2 H2 σ s st2 _ hr2 ((hs.ext e1).ext e2) (h2.bind fun u st3 β3 H3 u' _ e3 hr3 ru h3 => ?_)))⟩
  cases rl
  cases ru
  have rx := rx1.ext (e2.trans e3)
  unfold cutOf at h3
  split at h3
  · cases rx with
    | @tup p ws vs h1 r1 =>
      refine .inr (.inl ⟨p, vs, rfl, h1, fun ew => ?_, fun _ l hl => Po.tup h3 hr3 hl (r1.cut _ _)⟩)
      refine PoG.val h3 hr3 (.tup h1 ?_)
      have ec : ∀ us : List W, us.length = vs.length → cutW us l u = us := fun us q => by
        unfold cutW
        rw [q, ew.1, ew.2, List.drop_zero, Nat.sub_zero, ← q, List.take_length]
      rw [ec _ r1.length]
      exact r1
  · split at h3
    · rename_i hz
      cases rx
      exact .inr (.inr ⟨_, rfl, hz, PoG.val h3 hr3 (.str _)⟩)
    · exact h3.elim
  · split at h3
    · rename_i ws el
      obtain ⟨p, vs, rfl, h1, r1⟩ := asL_ok hr3 rx el
      exact .inl ⟨p, vs, rfl, h1, fun l hl => Po.lst h3 hr3 hl (r1.cut _ _)⟩
    · exact h3.elim
end

/-! ### fields -/
@[simp] def mFld (c : Nat) (f : Str) (a : ME) : ME := fun s st => (a s st).bind fun x st1 => match x with
  | .ref i => match st1[i]? with
    | some (.ins d fs) => if d = c then match fs.lookup f with
        | some w => .ok w st1
        | none => .stuck
      else .stuck
    | _ => .stuck
  | _ => .stuck
section
variable {X : Cx} {Cl : Nat → Addr} {E : XK} {pos : Pos} {ma : ME} {e : Expr}
theorem je_fld {c : Nat} {f : Str} (hc : Cls X.K (Cl c)) (hn : NoAttr X.K (Cl c) f) (ha : JE X Cl E e ma) (hb : attributeBase e f X.env (eval e X.env) = eval e X.env := by rfl) : JE X Cl E (.Attribute e f pos) (mFld c f ma) := by
  obtain ⟨t, p, q⟩ := ha.ex
  refine ⟨_, pe_fld p hb, fun β H σ s st Q hr hs h => q β H σ s st _ hr hs (h.bind fun x st1 β1 H1 v _ e1 hr1 rx h1 => ?_)⟩
  cases x with
  | ref i =>
    simp only at h1
    split at h1
    · rename_i d fs es
      split at h1
      · rename_i ed
        subst ed
        split at h1
        · rename_i w el
          obtain ⟨a, rfl, hb, dx, gs, hv, hrs⟩ := rx.atRef hr1 es (by intro z; cases z)
          obtain ⟨v, hl, rv⟩ := hrs.look el
          exact ⟨a, _, dx, gs, v, rfl, hv, hc, hn, hl, PoG.val h1 hr1 rv⟩
        · exact h1.elim
      · exact h1.elim
    · exact h1.elim
  | _ => exact h1.elim
end

/-! ### built-in calls -/
@[simp] def mCB (r : List W → Sto → Out W) (a : MA) : ME := fun s st => (a s st).bind fun xs st1 => r xs st1
def SCal (K : PySem.W.Frag) (Cl : Nat → Addr) (E : XK) (r : List V → Hp → VK → Prop) (m : List W → Sto → Out W) : Prop :=
  ∀ β H st xs vs Q, HR K Cl β H st → RVs K β H xs vs → Po K Cl E β H Q (m xs st) → r vs H Q
section
variable {X : Cx} {Cl : Nat → Addr} {E : XK} {pos p : Pos} {mr : MA} {e : Expr} {es : List Expr}
theorem je_callB {x : Str} {id : String} {r : List V → Hp → VK → Prop} {m : List W → Sto → Out W} (hc : CallR X (.builtin id) r ∧ SCal X.K Cl E r m) (hm : X.mg x = none) (hv : bootBuiltins x = some (.builtin id)) (ha : JA X Cl E (e :: es) mr) (hg : Gl X x := by rfl) (hn : x ≠ "__name__" := by decide) (hdb : (x == ("__debug__" : Str)) = false := by decide)
    (he : starEach (e :: es) X.env = (false, eval e X.env) :: starEach es X.env := by rfl) (hpl : (backTo pos (starEach es X.env)).any (·.1) = false := by rfl) : JE X Cl E (.Call (.Name x p) (e :: es) [] pos) (mCB m mr) := by
  obtain ⟨t, pr, q⟩ := ha.ex
  exact ⟨_, pe_callB hc.1 hg hm hv pr hn hdb he hpl, fun β H σ s st Q hr hs h => q β H σ s st _ hr hs (h.bind fun x st1 β1 H1 v _ e1 hr1 rx h1 => hc.2 β1 H1 st1 x v Q hr1 rx h1)⟩
theorem je_callTy {x : Str} {T : String} {r : List V → Hp → VK → Prop} {m : List W → Sto → Out W} (hc : CallR X (.type T) r ∧ SCal X.K Cl E r m) (hm : X.mg x = none) (hv : bootBuiltins x = some (.type T)) (ha : JA X Cl E (e :: es) mr) (hg : Gl X x := by rfl) (hn : x ≠ "__name__" := by decide) (hdb : (x == ("__debug__" : Str)) = false := by decide)
    (he : starEach (e :: es) X.env = (false, eval e X.env) :: starEach es X.env := by rfl) (hpl : (backTo pos (starEach es X.env)).any (·.1) = false := by rfl) : JE X Cl E (.Call (.Name x p) (e :: es) [] pos) (mCB m mr) := by
  obtain ⟨t, pr, q⟩ := ha.ex
  exact ⟨_, pe_callTy hc.1 hg hm hv pr hn hdb he hpl, fun β H σ s st Q hr hs h => q β H σ s st _ hr hs (h.bind fun x st1 β1 H1 v _ e1 hr1 rx h1 => hc.2 β1 H1 st1 x v Q hr1 rx h1)⟩
@[simp] def mLen : List W → Sto → Out W := fun xs st => match xs with
  | [.tup ws] => .ok (.int (ws.length : Nat)) st
  | [.str z] => if z.length ≤ sizeLine then .ok (.int (z.length : Nat)) st else .stuck
  | [x] => match asL x st with
    | some ws => .ok (.int (ws.length : Nat)) st
    | none => .stuck
  | _ => .stuck
@[simp] def mAbs : List W → Sto → Out W := fun xs st => match xs with
  | [.int i] => .ok (.int (if i < 0 then -i else i)) st
  | _ => .stuck
@[simp] def mMax2 : List W → Sto → Out W := fun xs st => match xs with
  | [.int i, .int j] => .ok (.int (max i j)) st
  | _ => .stuck
@[simp] def mMin2 : List W → Sto → Out W := fun xs st => match xs with
  | [.int i, .int j] => .ok (.int (min i j)) st
  | _ => .stuck
@[simp] def mInt : List W → Sto → Out W := fun xs st => match xs with
  | [.int i] => .ok (.int i) st
  | [.bl k] => .ok (.int (if k then 1 else 0)) st
  | _ => .stuck
@[simp] def mListOf : List W → Sto → Out W := fun xs st => match xs with
  | [.tup ws] => .ok (.lst ws) st
  | [x] => match asL x st with
    | some ws => .ok (.lst ws) st
    | none => .stuck
  | _ => .stuck
@[simp] def mTupleOf : List W → Sto → Out W := fun xs st => match xs with
  | [.tup ws] => .ok (.tup ws) st
  | [x] => match asL x st with
    | some ws => .ok (.tup ws) st
    | none => .stuck
  | _ => .stuck
theorem RVs.one {K : PySem.W.Frag} {β : Bt} {H : Hp} {w : W} {vs : List V} (r : RVs K β H [w] vs) : ∃ v, vs = [v] ∧ RV K β H w v := by
  cases r with
  | cons h t => cases t; exact ⟨_, rfl, h⟩
theorem RVs.two {K : PySem.W.Frag} {β : Bt} {H : Hp} {w u : W} {vs : List V} (r : RVs K β H [w, u] vs) : ∃ v x, vs = [v, x] ∧ RV K β H w v ∧ RV K β H u x := by
  cases r with
  | cons h t =>
    obtain ⟨x, rfl, h2⟩ := RVs.one t
    exact ⟨_, _, rfl, h, h2⟩
theorem c_len : CallR X (.builtin "len") (fun xs H Q => ∃ x n, xs = [x] ∧ LenV X.K x H n ∧ Q (.int n) H) ∧ SCal X.K Cl E (fun xs H Q => ∃ x n, xs = [x] ∧ LenV X.K x H n ∧ Q (.int n) H) mLen := by
  refine ⟨call_len, fun β H st xs vs Q hr r h => ?_⟩
  unfold mLen at h
  split at h
  · obtain ⟨v, rfl, rv⟩ := r.one
    cases rv with
    | tup h1 r1 => exact ⟨_, _, rfl, .inr ⟨_, h1, r1.length⟩, PoG.val h hr (.int _)⟩
  · split at h
    · obtain ⟨v, rfl, rv⟩ := r.one
      cases rv
      exact ⟨_, _, rfl, ⟨by assumption, rfl⟩, PoG.val h hr (.int _)⟩
    · exact h.elim
  · split at h
    · rename_i ws el
      obtain ⟨v, rfl, rv⟩ := r.one
      obtain ⟨p, vs, rfl, h1, r1⟩ := asL_ok hr rv el
      exact ⟨_, _, rfl, .inl ⟨_, h1, r1.length⟩, PoG.val h hr (.int _)⟩
    · exact h.elim
  · exact h.elim
theorem c_abs : CallR X (.builtin "abs") (fun xs H Q => ∃ i, xs = [.int i] ∧ Q (.int (if i < 0 then -i else i)) H) ∧ SCal X.K Cl E (fun xs H Q => ∃ i, xs = [.int i] ∧ Q (.int (if i < 0 then -i else i)) H) mAbs := by
  refine ⟨call_abs, fun β H st xs vs Q hr r h => ?_⟩
  unfold mAbs at h
  split at h
  · obtain ⟨v, rfl, rv⟩ := r.one
    cases rv
    exact ⟨_, rfl, PoG.val h hr (.int _)⟩
  · exact h.elim
theorem c_max2 (hc : X.calm = true) : CallR X (.builtin "max") (fun xs H Q => ∃ i j, xs = [.int i, .int j] ∧ Q (.int (if j > i then j else i)) H) ∧ SCal X.K Cl E (fun xs H Q => ∃ i j, xs = [.int i, .int j] ∧ Q (.int (if j > i then j else i)) H) mMax2 := by
  refine ⟨call_max2 hc, fun β H st xs vs Q hr r h => ?_⟩
  unfold mMax2 at h
  split at h
  · rename_i i j
    obtain ⟨v, u, rfl, rv, ru⟩ := r.two
    cases rv; cases ru
    have e : (if j > i then j else i) = max i j := by split <;> omega
    exact ⟨_, _, rfl, by rw [e]; exact PoG.val h hr (.int _)⟩
  · exact h.elim
theorem c_min2 (hc : X.calm = true) : CallR X (.builtin "min") (fun xs H Q => ∃ i j, xs = [.int i, .int j] ∧ Q (.int (if j < i then j else i)) H) ∧ SCal X.K Cl E (fun xs H Q => ∃ i j, xs = [.int i, .int j] ∧ Q (.int (if j < i then j else i)) H) mMin2 := by
  refine ⟨call_min2 hc, fun β H st xs vs Q hr r h => ?_⟩
  unfold mMin2 at h
  split at h
  · rename_i i j
    obtain ⟨v, u, rfl, rv, ru⟩ := r.two
    cases rv; cases ru
    have e : (if j < i then j else i) = min i j := by split <;> omega
    exact ⟨_, _, rfl, by rw [e]; exact PoG.val h hr (.int _)⟩
  · exact h.elim
theorem c_int : CallR X (.type "int") (fun xs H Q => (∃ i, xs = [.int i] ∧ Q (.int i) H) ∨ ∃ k, xs = [.bl k] ∧ Q (.int (if k then 1 else 0)) H) ∧ SCal X.K Cl E (fun xs H Q => (∃ i, xs = [.int i] ∧ Q (.int i) H) ∨ ∃ k, xs = [.bl k] ∧ Q (.int (if k then 1 else 0)) H) mInt := by
  refine ⟨call_int1, fun β H st xs vs Q hr r h => ?_⟩
  unfold mInt at h
  split at h
  · obtain ⟨v, rfl, rv⟩ := r.one
    cases rv
    exact .inl ⟨_, rfl, PoG.val h hr (.int _)⟩
  · obtain ⟨v, rfl, rv⟩ := r.one
    cases rv
    exact .inr ⟨_, rfl, PoG.val h hr (.int _)⟩
  · exact h.elim
theorem c_list : CallR X (.type "list") (fun xs H Q => ∃ p ys, xs = [.ref p] ∧ (SqL X.K H p ys ∨ SqT X.K H p ys) ∧ ∀ l, H l = none → Q (.ref l) (upd H l (.lst ys))) ∧
    SCal X.K Cl E (fun xs H Q => ∃ p ys, xs = [.ref p] ∧ (SqL X.K H p ys ∨ SqT X.K H p ys) ∧ ∀ l, H l = none → Q (.ref l) (upd H l (.lst ys))) mListOf := by
  refine ⟨call_list_of, fun β H st xs vs Q hr r h => ?_⟩
  unfold mListOf at h
  split at h
  · obtain ⟨v, rfl, rv⟩ := r.one
    cases rv with
    | tup h1 r1 => exact ⟨_, _, rfl, .inr h1, fun l hl => Po.lst h hr hl r1⟩
  · split at h
    · rename_i ws el
      obtain ⟨v, rfl, rv⟩ := r.one
      obtain ⟨p, vs, rfl, h1, r1⟩ := asL_ok hr rv el
      exact ⟨_, _, rfl, .inl h1, fun l hl => Po.lst h hr hl r1⟩
    · exact h.elim
  · exact h.elim
theorem c_tuple : CallR X (.type "tuple") (fun xs H Q => ∃ p ys, xs = [.ref p] ∧ ((SqL X.K H p ys ∧ ∀ l, H l = none → Q (.ref l) (upd H l (.tup ys))) ∨ (SqT X.K H p ys ∧ Q (.ref p) H))) ∧
    SCal X.K Cl E (fun xs H Q => ∃ p ys, xs = [.ref p] ∧ ((SqL X.K H p ys ∧ ∀ l, H l = none → Q (.ref l) (upd H l (.tup ys))) ∨ (SqT X.K H p ys ∧ Q (.ref p) H))) mTupleOf := by
  refine ⟨call_tuple_of, fun β H st xs vs Q hr r h => ?_⟩
  unfold mTupleOf at h
  split at h
  · obtain ⟨v, rfl, rv⟩ := r.one
    cases rv with
    | tup h1 r1 => exact ⟨_, _, rfl, .inr ⟨h1, PoG.val h hr (.tup h1 r1)⟩⟩
  · split at h
    · rename_i ws el
      obtain ⟨v, rfl, rv⟩ := r.one
      obtain ⟨p, vs, rfl, h1, r1⟩ := asL_ok hr rv el
      exact ⟨_, _, rfl, .inl ⟨h1, fun l hl => Po.tup h hr hl r1⟩⟩
    · exact h.elim
  · exact h.elim

/-! ### isinstance of a built-in class -/
@[simp] def tyOf (w : W) (st : Sto) : Option String := match w with
  | .non => some "NoneType" | .bl _ => some "bool" | .int _ => some "int" | .str _ => some "str" | .tup _ => some "tuple" | .lst _ => some "list" | .xst _ => some "list"
  | .ref i => match st[i]? with
    | some (.lst _) => some "list"
    | some (.dK _) => some "dict"
    | some (.dT _) => some "dict"
    | _ => none
@[simp] def mIsi (T : String) (a : ME) : ME := fun s st => (a s st).bind fun x st1 => match tyOf x st1 with
  | some t => match kitB t T with
    | some b => .ok (.bl b) st1
    | none => .stuck
  | none => .stuck
theorem tyOf_ok {K : PySem.W.Frag} {β : Bt} {H : Hp} {st : Sto} {x : W} {v : V} {t : String} (hr : HR K Cl β H st) (rx : RV K β H x v) (h : tyOf x st = some t) : TyX K H v (.type t) := by
  cases x with
  | non => cases h; cases rx; exact .base .non
  | bl b => cases h; cases rx; exact .base (.bl _)
  | int i => cases h; cases rx; exact .base (.int _)
  | str i => cases h; cases rx; exact .base (.str _)
  | tup ws =>
    cases h
    cases rx with
    | tup h1 r1 =>
      rcases h1 with (h1 | ⟨o, h1⟩) | ⟨o, its, n, hk, hc, _⟩
      · exact .base (.tup h1)
      · exact .fTuple h1
      · exact .kTuple hk hc
  | lst ws => cases h; cases rx with | lst h1 _ r1 => exact .base (.lst h1)
  | xst ws =>
    cases h
    cases rx with
    | xst h1 r1 =>
      rcases h1 with ⟨o, its, n, hk, hc, _⟩ | ⟨o, h1⟩
      · exact .kList hk hc
      · exact .base (.frz h1)
  | ref i =>
    simp only [tyOf] at h
    split at h
    · rename_i e
      cases h
      obtain ⟨a, rfl, _, vs, h1, _⟩ := rx.atRef hr e (by intro z; cases z)
      exact .base (.lst h1)
    · rename_i e
      cases h
      obtain ⟨a, rfl, _, vs, h1, _⟩ := rx.atRef hr e (by intro z; cases z)
      exact .base (.dK h1)
    · rename_i e
      cases h
      obtain ⟨a, rfl, _, vs, h1, _⟩ := rx.atRef hr e (by intro z; cases z)
      exact .base (.dT h1)
    · cases h
theorem je_isi {ma : ME} {x : Str} {T : String} {p2 : Pos} (hm : X.mg "isinstance" = none) (hmx : X.mg x = none) (hv : bootBuiltins x = some (.type T)) (ha : JE X Cl E e ma) (hgx : Gl X x := by rfl) (hnx : x ≠ "__name__" := by decide) (hdx : (x == ("__debug__" : Str)) = false := by decide)
    (hg : Gl X "isinstance" := by rfl)
    (he : starEach [e, .Name x p2] X.env = (false, eval e X.env) :: starEach [.Name x p2] X.env := by rfl) (hpl : (backTo pos (starEach [.Name x p2] X.env)).any (·.1) = false := by rfl) : JE X Cl E (.Call (.Name "isinstance" p) [e, .Name x p2] [] pos) (mIsi T ma) := by
  obtain ⟨t, pr, q⟩ := ha.ex
  refine ⟨_, pe_callB call_isi hg hm PyProof.Rows.boot_isinstance (pa_cons (hs := he) pr (pa_cons (pe_bltn (v := .ty T) hgx hmx hv rfl hnx hdx) pa_nil)) (he := he) (hpl := hpl), fun β H σ s st Q hr hs h => q β H σ s st _ hr hs (h.bind fun y st1 β1 H1 v _ e1 hr1 rx h1 => ?_)⟩
  split at h1
  · rename_i t et
    split at h1
    · rename_i b eb
      exact ⟨v, .ty T, .type t, .type T, b, rfl, .ty T, tyOf_ok hr1 rx et, kit_ty eb, PoG.val h1 hr1 (.bl b)⟩
    · exact h1.elim
  · exact h1.elim
end

/-! ### dicts with ints and texts as keys -/
@[simp] def toKey : W → Option Key
  | .int i => some (.inl i) | .str x => some (.inr x) | _ => none
def valW {κ : Type} [DecidableEq κ] (kvs : List (κ × W)) (k : κ) : Option W := (kvs.find? fun kv => decide (kv.1 = k)).map (·.2)
def putKW {κ : Type} [DecidableEq κ] (kvs : List (κ × W)) (k : κ) (v : W) : List (κ × W) :=
  if kvs.any fun kv => decide (kv.1 = k) then kvs.map fun kv => if kv.1 = k then (kv.1, v) else kv else kvs ++ [(k, v)]
@[simp] def mDGet (d k : ME) : ME := fun s st => (d s st).bind fun x st1 => (k s st1).bind fun y st2 => match x with
  | .ref i => match st2[i]?, toKey y with
    | some (.dK kvs), some k => match valW kvs k with
      | some w => .ok w st2
      | none => .stuck
    | _, _ => .stuck
  | _ => .stuck
section
variable {X : Cx} {Cl : Nat → Addr} {E : XK} {pos p : Pos} {md mk : ME} {o i : Expr}
theorem toKey_ok {K : PySem.W.Frag} {β : Bt} {H : Hp} {w : W} {v : V} {k : Key} (r : RV K β H w v) (h : toKey w = some k) : v = kV k := by
  cases w <;> first | (cases h; cases r; rfl) | cases h
theorem RF.val {K : PySem.W.Frag} {β : Bt} {H : Hp} {κ : Type} [DecidableEq κ] {k : κ} : ∀ {kvs : List (κ × W)} {gs : List (κ × V)} {w : W}, RF K β H kvs gs → valW kvs k = some w → ∃ v, valV gs k = some v ∧ RV K β H w v
  | _, _, _, .nil, e => by cases e
  | _, _, w, .cons (k := j) (w := u) (v := v) (fs := fs) (gs := gs) h r, e => by
    unfold valW at e
    unfold valV
    rw [List.find?_cons] at e ⊢
    by_cases hk : j = k
    · rw [decide_eq_true (show (j, u).1 = k from hk)] at e
      rw [decide_eq_true (show (j, v).1 = k from hk)]
      cases e
      exact ⟨v, rfl, h⟩
    · rw [decide_eq_false (show ¬ (j, u).1 = k from hk)] at e
      rw [decide_eq_false (show ¬ (j, v).1 = k from hk)]
      exact RF.val r e
theorem RF.valN {K : PySem.W.Frag} {β : Bt} {H : Hp} {κ : Type} [DecidableEq κ] {k : κ} : ∀ {kvs : List (κ × W)} {gs : List (κ × V)}, RF K β H kvs gs → valW kvs k = none → valV gs k = none
  | _, _, .nil, e => rfl
  | _, _, .cons (k := j) (w := u) (v := v) (fs := fs) (gs := gs) h r, e => by
    unfold valW at e
    unfold valV
    rw [List.find?_cons] at e ⊢
    by_cases hk : j = k
    · rw [decide_eq_true (show (j, u).1 = k from hk)] at e
      cases e
    · rw [decide_eq_false (show ¬ (j, u).1 = k from hk)] at e
      rw [decide_eq_false (show ¬ (j, v).1 = k from hk)]
      exact RF.valN r e
theorem je_dget (hu : X.A.units + 1 < cLine) (ho : JE X Cl E o md) (hi : JE X Cl E i mk) (hs : NoSl i := by exact fun _ _ => rfl) : JE X Cl E (.Subscript o i pos) (mDGet md mk) := by
  obtain ⟨_, p1, q1⟩ := ho.ex
  obtain ⟨_, p2, q2⟩ := hi.ex
  refine ⟨_, pe_dget hu p1 p2 hs, fun β H σ s st Q hr hs h => q1 β H σ s st _ hr hs (h.bind fun x st1 β1 H1 v _ e1 hr1 rx1 h1 => q2 β1 H1 σ s st1 _ hr1 (hs.ext e1) (h1.bind fun y st2 β2 H2 u _ e2 hr2 ry h2 => ?_))⟩
  have rx := rx1.ext e2
  cases x with
  | ref j =>
    simp only at h2
    split at h2
    · rename_i kvs k es ek
      split at h2
      · rename_i w ew
        obtain ⟨a, rfl, _, gs, hg, hrs⟩ := rx.atRef hr2 es (by intro z; cases z)
        obtain ⟨v, hv, rv⟩ := hrs.val ew
        exact ⟨a, v, rfl, .inl ⟨gs, k, .inl hg, toKey_ok ry ek, hv.symm⟩, PoG.val h2 hr2 rv⟩
      · exact h2.elim
    · exact h2.elim
  | _ => exact h2.elim
end

/-! ### a written dict -/
@[simp] def mPairs : List (ME × ME) → Slo → Sto → Out (List (W × W))
  | [], _, st => .ok [] st
  | (k, v) :: r, s, st => (k s st).bind fun x st1 => (v s st1).bind fun y st2 => (mPairs r s st2).bind fun ps st3 => .ok ((x, y) :: ps) st3
@[simp] def keyed : List (W × W) → Option (List (Key × W))
  | [] => some []
  | (x, y) :: r => match toKey x, keyed r with
    | some k, some ks => some ((k, y) :: ks)
    | _, _ => none
def mergeW (kvs more : List (Key × W)) : List (Key × W) := more.foldl (fun acc kv => putKW acc kv.1 kv.2) kvs
@[simp] def mDisp (ps : List (ME × ME)) : ME := fun s st => (mPairs ps s (st ++ [.dK []])).bind fun rs st2 => match st2[st.length]?, keyed rs with
  | some (.dK []), some kvs => if kvs.length ≤ 15 then .ok (.ref st.length) (st2.set st.length (.dK (mergeW [] kvs))) else .stuck
  | _, _ => .stuck
inductive RPs (K : PySem.W.Frag) (β : Bt) (H : Hp) : List (W × W) → List (V × V) → Prop
  | nil : RPs K β H [] []
  | cons {x y : W} {a b : V} {ws : List (W × W)} {vs : List (V × V)} : RV K β H x a → RV K β H y b → RPs K β H ws vs → RPs K β H ((x, y) :: ws) ((a, b) :: vs)
inductive JPs (X : Cx) (Cl : Nat → Addr) (E : XK) (pos : Pos) : List (Option Expr) → List Expr → List (TE × TE) → List (ME × ME) → Prop
  | nil : JPs X Cl E pos [] [] [] []
  | cons {k v : Expr} {ks : List (Option Expr)} {vs : List Expr} {tk tv : TE} {mk mv : ME} {ts : List (TE × TE)} {ms : List (ME × ME)} : PE X k tk → SE X.K Cl E tk mk → PE X v tv → SE X.K Cl E tv mv → JPs X Cl E pos ks vs ts ms → JPs X Cl E pos (some k :: ks) (v :: vs) ((tk, tv) :: ts) ((mk, mv) :: ms)
structure JP (X : Cx) (Cl : Nat → Addr) (E : XK) (pos : Pos) (ks : List (Option Expr)) (vs : List Expr) (ms : List (ME × ME)) : Prop where
  ex : ∃ ts, JPs X Cl E pos ks vs ts ms
section
variable {X : Cx} {Cl : Nat → Addr} {E : XK} {pos : Pos}
theorem jp_nil : JP X Cl E pos [] [] [] := ⟨[], .nil⟩
theorem jp_cons {k v : Expr} {ks : List (Option Expr)} {vs : List Expr} {mk mv : ME} {ms : List (ME × ME)} (hk : JE X Cl E k mk) (hv : JE X Cl E v mv) (h : JP X Cl E pos ks vs ms) : JP X Cl E pos (some k :: ks) (v :: vs) ((mk, mv) :: ms) := by
  obtain ⟨_, p1, q1⟩ := hk.ex
  obtain ⟨_, p2, q2⟩ := hv.ex
  obtain ⟨ts, h⟩ := h.ex
  exact ⟨_, .cons p1 q1 p2 q2 h⟩
theorem JPs.pps {ks : List (Option Expr)} {vs : List Expr} {ts : List (TE × TE)} {ms : List (ME × ME)} (h : JPs X Cl E pos ks vs ts ms) : PPs X pos ks vs ts := by
  induction h with
  | nil => exact pps_nil
  | cons p1 _ p2 _ _ ih => exact pps_cons p1 p2 ih
theorem JPs.sim {ks : List (Option Expr)} {vs : List Expr} {ts : List (TE × TE)} {ms : List (ME × ME)} (h : JPs X Cl E pos ks vs ts ms) : ∀ β H σ s st Q, HR X.K Cl β H st → SR X.K β H s σ → PoG X.K Cl (RPs X.K) E β H Q (mPairs ms s st) → tPairs ts σ H Q := by
  induction h with
  | nil => exact fun β H σ s st Q hr hs h => PoG.val h hr .nil
  | cons p1 q1 p2 q2 _ ih =>
    exact fun β H σ s st Q hr hs h => q1 β H σ s st _ hr hs (h.bind fun x st1 β1 H1 v _ e1 hr1 rx h1 => q2 β1 H1 σ s st1 _ hr1 (hs.ext e1) (h1.bind fun y st2 β2 H2 u _ e2 hr2 ry h2 => ih β2 H2 σ s st2 _ hr2 ((hs.ext e1).ext e2) (h2.bind fun ps st3 β3 H3 us _ e3 hr3 rp h3 =>
      PoG.val h3 hr3 (.cons (rx.ext (e2.trans e3)) (ry.ext e3) rp))))
theorem RF.any {K : PySem.W.Frag} {β : Bt} {H : Hp} {κ : Type} [DecidableEq κ] {k : κ} : ∀ {kvs : List (κ × W)} {gs : List (κ × V)}, RF K β H kvs gs → (kvs.any fun kv => decide (kv.1 = k)) = (gs.any fun kv => decide (kv.1 = k))
  | _, _, .nil => rfl
  | _, _, .cons h r => by
    rw [List.any_cons, List.any_cons, RF.any r] <;> rfl
theorem RF.repl {K : PySem.W.Frag} {β : Bt} {H : Hp} {κ : Type} [DecidableEq κ] {k : κ} {y : W} {v : V} (ry : RV K β H y v) : ∀ {kvs : List (κ × W)} {gs : List (κ × V)}, RF K β H kvs gs → RF K β H (kvs.map fun kv => if kv.1 = k then (kv.1, y) else kv) (gs.map fun kv => if kv.1 = k then (kv.1, v) else kv)
  | _, _, .nil => .nil
  | _, _, .cons (k := j) h r => by
    rw [List.map_cons, List.map_cons]
    by_cases e : j = k
    · rw [if_pos (show (j, _).1 = k from e), if_pos (show (j, _).1 = k from e)]
      exact .cons ry (RF.repl ry r)
    · rw [if_neg (show ¬ (j, _).1 = k from e), if_neg (show ¬ (j, _).1 = k from e)]
      exact .cons h (RF.repl ry r)
theorem RF.append {K : PySem.W.Frag} {β : Bt} {H : Hp} {κ : Type} : ∀ {kvs more : List (κ × W)} {gs hs : List (κ × V)}, RF K β H kvs gs → RF K β H more hs → RF K β H (kvs ++ more) (gs ++ hs)
  | _, _, _, _, .nil, s => s
  | _, _, _, _, .cons h r, s => .cons h (RF.append r s)
theorem RF.put {K : PySem.W.Frag} {β : Bt} {H : Hp} {κ : Type} [DecidableEq κ] {kvs : List (κ × W)} {gs : List (κ × V)} (r : RF K β H kvs gs) (k : κ) {y : W} {v : V} (ry : RV K β H y v) : RF K β H (putKW kvs k y) (putK gs k v) := by
  unfold putKW putK
  rw [r.any (k := k)]
  split
  · exact r.repl ry
  · exact r.append (.cons ry .nil)
theorem RF.merge {K : PySem.W.Frag} {β : Bt} {H : Hp} : ∀ {more : List (Key × W)} {hs : List (Key × V)} {kvs : List (Key × W)} {gs : List (Key × V)}, RF K β H more hs → RF K β H kvs gs → RF K β H (mergeW kvs more) (mergeK gs hs)
  | _, _, _, _, .nil, r => r
  | _, _, kvs, gs, .cons (k := k) (w := w) (v := v) (fs := fs) (gs := hs) h t, r => by
    show RF K β H (mergeW (putKW kvs k w) fs) (mergeK (putK gs k v) hs)
    exact RF.merge t (r.put k h)
theorem keyed_ok {K : PySem.W.Frag} {β : Bt} {H : Hp} : ∀ {ws : List (W × W)} {vs : List (V × V)} {kvs : List (Key × W)}, RPs K β H ws vs → keyed ws = some kvs → ∃ gs : List (Key × V), vs = gs.map (fun kv => (kV kv.1, kv.2)) ∧ RF K β H kvs gs
  | _, _, _, .nil, h => by cases h; exact ⟨[], rfl, .nil⟩
  | _, _, _, .cons (x := x) (ws := ws) (b := b) rx ry r, h => by
    unfold keyed at h
    split at h
    · rename_i k ks e1 e2
      cases h
      obtain ⟨gs, e, rf⟩ := keyed_ok r e2
      have ek := toKey_ok rx e1
      subst e ek
      exact ⟨(k, b) :: gs, rfl, .cons ry rf⟩
    · cases h
theorem je_disp {ks : List (Option Expr)} {vs : List Expr} {ms : List (ME × ME)} (h : JP X Cl E pos ks vs ms) (hall : ks.all (·.isSome) = true := by rfl) (hl : ks.length = vs.length := by rfl) (h0 : ks ≠ [] := by exact List.cons_ne_nil _ _) (h15 : ks.length ≤ 15 := by decide) : JE X Cl E (.Dict ks vs pos) (mDisp ms) := by
  obtain ⟨ts, h⟩ := h.ex
  refine ⟨_, pe_disp h.pps hall hl h0 h15, fun β H σ s st Q hr hs hp p hn => ?_⟩
  have ep : Ext X.K β H (β.push p) (upd H p (.dK [])) := Ext.push hn
  have hr' : HR X.K Cl (β.push p) (upd H p (.dK [])) (st ++ [.dK []]) := hr.push hn ⟨[], upd_same, .nil⟩
  refine h.sim _ _ σ s _ _ hr' (hs.ext ep) ((PoG.ext ep hp).bind fun rs st2 β2 H2 us _ e2 hr2 rp h2 => ?_)
  split at h2
  · rename_i kvs e1 e3
    split at h2
    · rename_i hz
      have hb : (β.push p).l[st.length]? = some (some p) := by rw [← hr.len]; exact push_last
      obtain ⟨a, hb2, gs0, hg, r0⟩ := hr2.at e1 (by intro z; cases z)
      cases r0
      have ha : a = p := by
        rcases e2.live _ _ hb with q | q
        · rw [hb2] at q
          exact Option.some.inj (Option.some.inj q)
        · rw [hb2] at q
          cases q
      subst ha
      obtain ⟨gs, eg, rf⟩ := keyed_ok rp e3
      have hlen : gs.length ≤ 15 := by rw [← rf.length]; exact hz
      have em : Ext X.K β2 H2 β2 (upd H2 a (.dK (mergeK [] gs))) := Ext.mut hr2 hb2 hg trivial
      exact ⟨hg, gs, eg, hlen, h2 β2 _ _ em (hr2.mut hb2 hg trivial ⟨_, upd_same, (rf.merge .nil).ext em⟩) (.ref hb2)⟩
    · exact h2.elim
  · exact h2.elim
end
end Mi
/-! The mirror layer, part E: statements, loops, comprehensions. -/
namespace Mi
open PySem L2

structure JS (X : Cx) (Cl : Nat → Addr) (E : XK) (x : Stmt) (m : MS) : Prop where
  ex : ∃ t, PS X x t ∧ SS X.K Cl E t m
structure JSs (X : Cx) (Cl : Nat → Addr) (E : XK) (x : List Stmt) (m : MS) : Prop where
  ex : ∃ t, PSs X x t ∧ SS X.K Cl E t m

@[simp] def SO.then : SO → MS → SO
  | .nx s st, k => k s st
  | .rt w st, _ => .rt w st
  | .bk s st, _ => .bk s st
  | .ct s st, _ => .ct s st
  | .exc c fs st, _ => .exc c fs st
  | .stuck, _ => .stuck
/-- an evaluation's outcome, then a statement's -/
@[simp] def Out.run {α : Type} : Out α → (α → Sto → SO) → SO
  | .ok a st, k => k a st
  | .exc c fs st, _ => .exc c fs st
  | .stuck, _ => .stuck
@[simp] def mSkip : MS := fun s st => .nx s st
@[simp] def mSeq (a b : MS) : MS := fun s st => (a s st).then b
@[simp] def mBrk : MS := fun s st => .bk s st
@[simp] def mCont : MS := fun s st => .ct s st
@[simp] def mDrop (e : ME) : MS := fun s st => (e s st).run fun _ st1 => .nx s st1
@[simp] def mRet (e : ME) : MS := fun s st => (e s st).run fun w st1 => .rt w st1
@[simp] def mRetN : MS := fun _ st => .rt .non st
@[simp] def mIfS (t : MT) (a b : MS) : MS := fun s st => (t s st).run fun k st1 => if k = true then a s st1 else b s st1
abbrev MG := W → Slo → Sto → Option (Slo × Sto)
abbrev MGs := List W → Slo → Sto → Option (Slo × Sto)
@[simp] def mGN (i : Nat) : MG := fun w s st => some (s.set i (some w), st)
@[simp] def mGNil : MGs := fun ws s st => match ws with
  | [] => some (s, st)
  | _ => none
@[simp] def mGCons (g : MG) (r : MGs) : MGs := fun ws s st => match ws with
  | w :: ws => match g w s st with
    | some (s1, st1) => r ws s1 st1
    | none => none
  | [] => none
@[simp] def mGTup (n : Nat) (g : MGs) : MG := fun w s st => match w with
  | .tup ws => if ws.length = n then g ws s st else none
  | _ => none
@[simp] def mGSub (o i : ME) : MG := fun w s st => match o s st with
  | .ok x st1 => match i s st1 with
    | .ok y st2 => match x, y with
      | .ref r, .int k => match st2[r]? with
        | some (.lst ws) => match ixN ws.length k with
          | some j => some (s, st2.set r (.lst (ws.set j w)))
          | none => none
        | _ => none
      | _, _ => none
    | _ => none
  | _ => none
@[simp] def mGFld (c : Nat) (f : Str) (o : ME) : MG := fun w s st => match o s st with
  | .ok x st1 => match x with
    | .ref r => match st1[r]? with
      | some (.ins d fs) => if d = c ∧ fs.length < 1000 then some (s, st1.set r (.ins c (putW f w fs))) else none
      | _ => none
    | _ => none
  | _ => none
@[simp] def mAsg (e : ME) (g : MG) : MS := fun s st => (e s st).run fun w st1 => match g w s st1 with
  | some (s1, st2) => .nx s1 st2
  | none => .stuck
@[simp] def mSetF (c : Nat) (f : Str) (o e : ME) : MS := fun s st => (e s st).run fun w st1 => (o s st1).run fun x st2 => match x with
  | .ref r => match st2[r]? with
    | some (.ins d fs) => if d = c ∧ fs.length < 1000 then .nx s (st2.set r (.ins c (putW f w fs))) else .stuck
    | _ => .stuck
  | _ => .stuck
@[simp] def mDPut (d k e : ME) : MS := fun s st => (e s st).run fun w st1 => (d s st1).run fun x st2 => (k s st2).run fun y st3 => match x with
  | .ref r => match st3[r]?, toKey y with
    | some (.dK kvs), some k => if kvs.length < sizeLine then .nx s (st3.set r (.dK (putKW kvs k w))) else .stuck
    | _, _ => .stuck
  | _ => .stuck
/-- name op= e -/
@[simp] def mAug (i : Nat) (e : ME) (f : Int → Int → Int) : MS := fun s st => match s[i]? with
  | some (some (.int a)) => (e s st).run fun y st1 => match y with
    | .int b => .nx (s.set i (some (.int (f a b)))) st1
    | _ => .stuck
  | _ => .stuck
@[simp] def mPar (i j : Nat) (a : MA) : MS := fun s st => (a s st).run fun ws st1 => match ws with
  | [v, w] => .nx ((s.set i (some v)).set j (some w)) st1
  | _ => .stuck

section
variable {K : PySem.W.Frag} {Cl : Nat → Addr} {E : XK} {β : Bt} {H : Hp} {α ω : Type} {R1 : Bt → Hp → α → ω → Prop} {D : Ends}
theorem PoS.run {Q1 : ω → Hp → Prop} {o : Out α} {f : α → Sto → SO} (h : PoS K Cl E D β H (o.run f))
    (k : ∀ a st1 β1 H1 v, o = .ok a st1 → Ext K β H β1 H1 → HR K Cl β1 H1 st1 → R1 β1 H1 a v → PoS K Cl E D β1 H1 (f a st1) → Q1 v H1) : PoG K Cl R1 E β H Q1 o := by
  cases o with
  | ok a st => exact fun β1 H1 v e hr r => k a st β1 H1 v rfl e hr r (PoS.ext e h)
  | exc c fs st => exact h
  | stuck => exact h
theorem PoS.val {s : Slo} {st : Sto} {σ : L2.St} (h : PoS K Cl E D β H (.nx s st)) (hr : HR K Cl β H st) (hs : SR K β H s σ) : D.nx σ H := h β H σ (Ext.refl K β H) hr hs
/-- a target's end -/
def PoT (K : PySem.W.Frag) (Cl : Nat → Addr) (Q : L2.St → Hp → Prop) (β : Bt) (H : Hp) : Option (Slo × Sto) → Prop
  | some (s, st) => ∀ β' H' σ', Ext K β H β' H' → HR K Cl β' H' st → SR K β' H' s σ' → Q σ' H'
  | none => False
theorem PoT.ext {Q : L2.St → Hp → Prop} {β' : Bt} {H' : Hp} {o : Option (Slo × Sto)} (e : Ext K β H β' H') (h : PoT K Cl Q β H o) : PoT K Cl Q β' H' o := by
  cases o with
  | some p => exact fun β2 H2 σ2 e2 hr hs => h β2 H2 σ2 (e.trans e2) hr hs
  | none => exact h
def SG (K : PySem.W.Frag) (Cl : Nat → Addr) (g : TG) (m : MG) : Prop := ∀ β H σ s st w v Q, HR K Cl β H st → SR K β H s σ → RV K β H w v → PoT K Cl Q β H (m w s st) → g v σ H Q
def SGs (K : PySem.W.Frag) (Cl : Nat → Addr) (g : TGs) (m : MGs) : Prop := ∀ β H σ s st ws vs Q, HR K Cl β H st → SR K β H s σ → RVs K β H ws vs → PoT K Cl Q β H (m ws s st) → g vs σ H Q
theorem ss_seq {t u : TS} {a b : MS} (ha : SS K Cl E t a) (hb : SS K Cl E u b) : SS K Cl E (tSeq t u) (mSeq a b) := fun β H σ s st D hr hs h => by
  refine ha β H σ s st _ hr hs ?_
  unfold mSeq at h
  cases e : a s st with
  | nx s1 st1 => rw [e] at h; exact fun β1 H1 σ1 e1 hr1 hs1 => hb β1 H1 σ1 s1 st1 D hr1 hs1 (PoS.ext e1 h)
  | rt w st1 => rw [e] at h; exact h
  | bk s1 st1 => rw [e] at h; exact h
  | ct s1 st1 => rw [e] at h; exact h
  | exc c fs st1 => rw [e] at h; exact h
  | stuck => rw [e] at h; exact h
end

section
variable {X : Cx} {Cl : Nat → Addr} {E : XK} {pos : Pos} {ma mb md mk : ME} {ta : MT} {m1 m2 : MS} {a b c e o : Expr} {st : Stmt} {rest as bs : List Stmt}
theorem jss_nil : JSs X Cl E [] mSkip := ⟨_, pss_nil, fun β H σ s st D hr hs h => PoS.val h hr hs⟩
theorem jss_cons (h1 : JS X Cl E st m1) (h2 : JSs X Cl E rest m2) : JSs X Cl E (st :: rest) (mSeq m1 m2) := by
  obtain ⟨_, p1, q1⟩ := h1.ex
  obtain ⟨_, p2, q2⟩ := h2.ex
  exact ⟨_, pss_cons p1 p2, ss_seq q1 q2⟩
theorem jss_one (h1 : JS X Cl E st m1) : JSs X Cl E [st] m1 := by
  obtain ⟨_, p1, q1⟩ := h1.ex
  exact ⟨_, pss_one p1, q1⟩
theorem js_pass : JS X Cl E (.Pass pos) mSkip := ⟨_, ps_pass, fun β H σ s st D hr hs h => PoS.val h hr hs⟩
theorem js_doc {x j pos'} : JS X Cl E (.Expr (.Constant (.str x) j pos) pos') mSkip := ⟨_, ps_doc, fun β H σ s st D hr hs h => PoS.val h hr hs⟩
theorem js_brk : JS X Cl E (.Break pos) mBrk := ⟨_, ps_break, fun β H σ s st D hr hs h => h β H σ (Ext.refl _ β H) hr hs⟩
theorem js_cont : JS X Cl E (.Continue pos) mCont := ⟨_, ps_continue, fun β H σ s st D hr hs h => h β H σ (Ext.refl _ β H) hr hs⟩
theorem js_expr (h : JE X Cl E e ma) (hs : swapsWith e none pos.line X.env = pure false := by rfl) : JS X Cl E (.Expr e pos) (mDrop ma) := by
  obtain ⟨_, p, q⟩ := h.ex
  exact ⟨_, ps_expr p hs, fun β H σ s st D hr hs h => q β H σ s st _ hr hs (h.run fun x st1 β1 H1 v _ e1 hr1 rx h1 => PoS.val h1 hr1 (hs.ext e1))⟩
theorem js_ret (h : JE X Cl E e ma) : JS X Cl E (.Return (some e) pos) (mRet ma) := by
  obtain ⟨_, p, q⟩ := h.ex
  exact ⟨_, ps_ret p, fun β H σ s st D hr hs h => q β H σ s st _ hr hs (h.run fun x st1 β1 H1 v _ e1 hr1 rx h1 => h1 β1 H1 v (Ext.refl _ β1 H1) hr1 rx)⟩
theorem js_retN : JS X Cl E (.Return none pos) mRetN := ⟨_, ps_retN, fun β H σ s st D hr hs h => h β H .non (Ext.refl _ β H) hr .non⟩
theorem js_if (hc : JT X Cl E c ta) (h1 : JSs X Cl E as m1) (h2 : JSs X Cl E bs m2) : JS X Cl E (.If c as bs pos) (mIfS ta m1 m2) := by
  obtain ⟨_, p, q⟩ := hc.ex
  obtain ⟨_, p1, q1⟩ := h1.ex
  obtain ⟨_, p2, q2⟩ := h2.ex
  refine ⟨_, ps_if p p1 p2, fun β H σ s st D hr hs h => q β H σ s st _ hr hs (h.run fun x st1 β1 H1 v _ e1 hr1 rx h1 => ?_)⟩
  cases rx
  cases x with
  | true => rw [if_pos rfl] at h1 ⊢; exact q1 β1 H1 σ s st1 D hr1 (hs.ext e1) h1
  | false => rw [if_neg Bool.false_ne_true] at h1 ⊢; exact q2 β1 H1 σ s st1 D hr1 (hs.ext e1) h1

/-! ### targets -/
structure JG (X : Cx) (Cl : Nat → Addr) (tg : Expr) (m : MG) : Prop where
  ex : ∃ g, PG X tg g ∧ SG X.K Cl g m
structure JGs (X : Cx) (Cl : Nat → Addr) (tgs : List Expr) (m : MGs) : Prop where
  ex : ∃ g, PGs X tgs g ∧ SGs X.K Cl g m
theorem jg_name (i : Nat) {x : Str} (hN : X.N.Nodup) (hi : X.N[i]? = some x := by rfl) (hx : Loc X.env.scope x := by first | exact .inl rfl | exact .inr rfl) (hf : X.fn x = true ∨ X.env.scope.names.lookup x = some .local := by first | exact .inl rfl | exact .inr rfl) : JG X Cl (.Name x pos) (mGN i) :=
  ⟨_, pg_name hN hi hx hf, fun β H σ s st w v Q hr hs rw h => h β H _ (Ext.refl _ β H) hr (hs.set rw)⟩
theorem jgs_nil : JGs X Cl [] mGNil := by
  refine ⟨_, pgs_nil, fun β H σ s st ws vs Q hr hs rw h => ?_⟩
  unfold mGNil at h
  split at h
  · cases rw
    exact ⟨rfl, h β H _ (Ext.refl _ β H) hr hs⟩
  · exact h.elim
theorem jgs_cons {g : MG} {r : MGs} {t : Expr} {ts : List Expr} (h1 : JG X Cl t g) (h2 : JGs X Cl ts r) (hs : (assignEach (t :: ts) X.env).map (·.2) = assign t X.env :: (assignEach ts X.env).map (·.2) := by rfl) : JGs X Cl (t :: ts) (mGCons g r) := by
  obtain ⟨_, p1, q1⟩ := h1.ex
  obtain ⟨_, p2, q2⟩ := h2.ex
  refine ⟨_, pgs_cons p1 p2 hs, fun β H σ s st ws vs Q hr hs rw h => ?_⟩
  unfold mGCons at h
  split at h
  · rename_i w ws
    cases rw with
    | cons r1 r2 =>
      refine ⟨_, _, rfl, q1 β H σ s st _ _ _ hr hs r1 ?_⟩
      cases e : g w s st with
      | none => rw [e] at h; exact h.elim
      | some p =>
        obtain ⟨s1, st1⟩ := p
        rw [e] at h
        exact fun β1 H1 σ1 e1 hr1 hs1 => q2 β1 H1 σ1 s1 st1 _ _ Q hr1 hs1 (r2.ext e1) (PoT.ext e1 h)
  · exact h.elim
theorem jg_tup {r : MGs} {ts : List Expr} {k : Nat} {n : Nat} (hc : X.calm = true) (h : JGs X Cl ts r) (hn : (assignEach ts X.env).length = n := by rfl) (hst : (assignEach ts X.env).findIdx? (·.1) = none := by rfl) : JG X Cl (.Tuple ts k pos) (mGTup n r) := by
  obtain ⟨_, p, q⟩ := h.ex
  refine ⟨_, pg_tup hc p hn hst, fun β H σ s st w v Q hr hs rw h => ?_⟩
  unfold mGTup at h
  split at h
  · split at h
    · rename_i hl
      cases rw with
      | tup h1 r1 => exact ⟨_, _, rfl, h1, by rw [← r1.length]; exact hl, q β H σ s st _ _ Q hr hs r1 h⟩
    · exact h.elim
  · exact h.elim
theorem jg_sub {i : Expr} (ho : JE X Cl E o ma) (hi : JE X Cl E i mb)
    (ha : ∀ v, assign (.Subscript o i pos) X.env v = (do
      let ov ← holding [v] (eval o X.env)
      let iv ← holding [v, ov] (eval i X.env)
      standAt pos
      holding [v, ov, iv] (setItem ov iv v)
      release [v, ov, iv] []) := by intro _; rfl) : JG X Cl (.Subscript o i pos) (mGSub ma mb) := by
  obtain ⟨_, p1, q1⟩ := ho.ex
  obtain ⟨_, p2, q2⟩ := hi.ex
  refine ⟨_, pg_sub p1 p2 set_list ha, fun β H σ s st w v Q hr hs rw h => q1 β H σ s st _ hr hs ?_⟩
  unfold mGSub at h
  cases e1 : ma s st with
  | exc c fs x => rw [e1] at h; exact h.elim
  | stuck => rw [e1] at h; exact h.elim
  | ok x st1 =>
    rw [e1] at h
    intro β1 H1 v1 x1 hr1 rx
    refine q2 β1 H1 σ s st1 _ hr1 (hs.ext x1) ?_
    simp only at h
    cases e2 : mb s st1 with
    | exc c fs x => rw [e2] at h; exact h.elim
    | stuck => rw [e2] at h; exact h.elim
    | ok y st2 =>
      rw [e2] at h
      intro β2 H2 v2 x2 hr2 ry
      simp only at h
      split at h
      · rename_i r k
        split at h
        · rename_i ws es
          split at h
          · rename_i j ej
            have rx2 := rx.ext x2
            obtain ⟨a, rfl, hb, vs, hv, hrs⟩ := rx2.atRef hr2 es (by intro z; cases z)
            cases ry
            have em : Ext X.K β2 H2 β2 (upd H2 a (.lst (vs.set j v))) := Ext.mut hr2 hb hv trivial
            refine ⟨a, vs, k, j, rfl, rfl, hv, by rw [← hrs.length]; exact ej, ?_⟩
            have hrw := hrs.set ((rw.ext x1).ext x2) j
            exact h β2 _ σ ((x1.trans x2).trans em) (hr2.mut hb hv trivial ⟨_, upd_same, hrw.ext em⟩) (((hs.ext x1).ext x2).ext em)
          · exact h.elim
        · exact h.elim
      · exact h.elim
theorem js_asg {tg : Expr} {g : MG} (he : JE X Cl E e ma) (hg : JG X Cl tg g) (hs : swapsWithSole [tg] e pos.line X.env = pure false := by rfl) (hw : swappedStores [tg] e X.env = pure none := by rfl)
    (h1 : (assignEach [tg] X.env).map (·.2) = [assign tg X.env] := by rfl) : JS X Cl E (.Assign [tg] e pos) (mAsg ma g) := by
  obtain ⟨_, p1, q1⟩ := he.ex
  obtain ⟨_, p2, q2⟩ := hg.ex
  refine ⟨_, ps_asg p1 p2 hs hw h1, fun β H σ s st D hr hs h => q1 β H σ s st _ hr hs (h.run fun x st1 β1 H1 v _ e1 hr1 rx h1 => q2 β1 H1 σ s st1 x v _ hr1 (hs.ext e1) rx ?_)⟩
  split at h1
  · rename_i s1 st2 eg
    rw [eg]
    exact h1
  · exact h1.elim
theorem js_set (i : Nat) {x : Str} {pos' : Pos} (hN : X.N.Nodup) (he : JE X Cl E e ma) (hi : X.N[i]? = some x := by rfl) (hx : Loc X.env.scope x := by first | exact .inl rfl | exact .inr rfl) (hs : swapsWith e (some (.Name x pos')) pos.line X.env = pure false := by rfl) (hf : X.fn x = true ∨ X.env.scope.names.lookup x = some .local := by first | exact .inl rfl | exact .inr rfl) :
    JS X Cl E (.Assign [.Name x pos'] e pos) (mAsg ma (mGN i)) := by
  obtain ⟨_, p1, q1⟩ := he.ex
  exact ⟨_, ps_set hN hi hx p1 hs hf, fun β H σ s st D hr hs h => q1 β H σ s st _ hr hs (h.run fun x st1 β1 H1 v _ e1 hr1 rx h1 => PoS.val h1 hr1 ((hs.ext e1).set rx))⟩
theorem js_par (i j : Nat) {x y : Str} {px py pt pt2 : Pos} {kt k2 : Nat} {mp : MA} (hN : X.N.Nodup) (hc : X.calm = true) (ha : JA X Cl E [a, b] mp) (hij : i ≠ j := by decide) (hi : X.N[i]? = some x := by rfl) (hj : X.N[j]? = some y := by rfl)
    (hx : X.env.scope.names.lookup x = some .local := by rfl) (hy : X.env.scope.names.lookup y = some .local := by rfl)
    (hw : swappedStores [.Tuple [.Name x px, .Name y py] kt pt] (.Tuple [a, b] k2 pt2) X.env = pure (some [x, y]) := by rfl)
    (hs : swapsWithSole [.Tuple [.Name x px, .Name y py] kt pt] (.Tuple [a, b] k2 pt2) pos.line X.env = pure false := by rfl) :
    JS X Cl E (.Assign [.Tuple [.Name x px, .Name y py] kt pt] (.Tuple [a, b] k2 pt2) pos) (mPar i j mp) := by
  obtain ⟨_, p1, q1⟩ := ha.ex
  refine ⟨_, ps_par hc hN hi hj hij hx hy p1 hw hs, fun β H σ s st D hr hs h => q1 β H σ s st _ hr hs (h.run fun x st1 β1 H1 v _ e1 hr1 rx h1 => ?_)⟩
  split at h1
  · obtain ⟨v1, v2, rfl, r1, r2⟩ := RVs.two rx
    exact ⟨v1, v2, rfl, PoS.val h1 hr1 (((hs.ext e1).set r1).set r2)⟩
  · exact h1.elim
theorem putW_ok {K : PySem.W.Frag} {β : Bt} {H : Hp} {f : Str} {w : W} {v : V} (r : RV K β H w v) : ∀ {fs : Fl} {gs : List (Str × V)}, RF K β H fs gs → RF K β H (putW f w fs) (putF f v gs)
  | _, _, .nil => .cons r .nil
  | _, _, .cons (k := g) h t => by
    show RF K β H (if g = f then _ else _) (if g = f then _ else _)
    by_cases e : g = f
    · rw [if_pos e, if_pos e]
      subst e
      exact .cons r t
    · rw [if_neg e, if_neg e]
      exact .cons h (putW_ok r t)
theorem js_fld {c : Nat} {f : Str} {pos' : Pos} (hc : Cls X.K (Cl c)) (hn : NoAttr X.K (Cl c) f) (ho : JE X Cl E o mb) (he : JE X Cl E e ma) (hs : swapsWith e (some (.Attribute o f pos')) pos.line X.env = pure false := by rfl) :
    JS X Cl E (.Assign [.Attribute o f pos'] e pos) (mSetF c f mb ma) := by
  obtain ⟨_, p1, q1⟩ := he.ex
  obtain ⟨_, p2, q2⟩ := ho.ex
  refine ⟨_, ps_fld p2 p1 hs, fun β H σ s st D hr hs h => q1 β H σ s st _ hr hs (h.run fun x st1 β1 H1 v _ e1 hr1 rx h1 => q2 β1 H1 σ s st1 _ hr1 (hs.ext e1) (h1.run fun y st2 β2 H2 u _ e2 hr2 ry h2 => ?_))⟩
  cases y with
  | ref r =>
    simp only at h2
    split at h2
    · rename_i d fs es
      split at h2
      · rename_i hd
        obtain ⟨rfl, hl⟩ := hd
        obtain ⟨a, rfl, hb, dx, gs, hv, hrs⟩ := ry.atRef hr2 es (by intro z; cases z)
        have em : Ext X.K β2 H2 β2 (upd H2 a (.ins (Cl d) dx (putF f v gs))) := Ext.mut hr2 hb hv trivial
        exact ⟨a, _, dx, gs, rfl, hv, hc, hn, by rw [← hrs.length]; exact hl, h2 β2 _ σ em (hr2.mut hb hv trivial ⟨dx, _, upd_same, (putW_ok (rx.ext e2) hrs).ext em⟩) (((hs.ext e1).ext e2).ext em)⟩
      · exact h2.elim
    · exact h2.elim
  | _ => exact h2.elim
theorem js_dput {i : Expr} {pos' : Pos} (hu : X.A.units + 1 < cLine) (ho : JE X Cl E o md) (hi : JE X Cl E i mk) (he : JE X Cl E e ma) (hs : swapsWith e (some (.Subscript o i pos')) pos.line X.env = pure false := by rfl) :
    JS X Cl E (.Assign [.Subscript o i pos'] e pos) (mDPut md mk ma) := by
  obtain ⟨_, p1, q1⟩ := he.ex
  obtain ⟨_, p2, q2⟩ := ho.ex
  obtain ⟨_, p3, q3⟩ := hi.ex
  refine ⟨_, ps_dput hu p2 p3 p1 hs, fun β H σ s st D hr hs h => q1 β H σ s st _ hr hs (h.run fun x st1 β1 H1 v _ e1 hr1 rx h1 => q2 β1 H1 σ s st1 _ hr1 (hs.ext e1) (h1.run fun y st2 β2 H2 u _ e2 hr2 ry0 h2 =>
    q3 β2 H2 σ s st2 _ hr2 ((hs.ext e1).ext e2) (h2.run fun z st3 β3 H3 t _ e3 hr3 rz h3 => ?_)))⟩
  have ry := ry0.ext e3
  cases y with
  | ref r =>
    simp only at h3
    split at h3
    · rename_i kvs k es ek
      split at h3
      · rename_i hl
        obtain ⟨a, rfl, hb, gs, hv, hrs⟩ := ry.atRef hr3 es (by intro z; cases z)
        have em : Ext X.K β3 H3 β3 (upd H3 a (.dK (putK gs k v))) := Ext.mut hr3 hb hv trivial
        exact ⟨a, _, rfl, .inl ⟨gs, k, hv, toKey_ok rz ek, by rw [← hrs.length]; exact hl, rfl⟩, h3 β3 _ σ em (hr3.mut hb hv trivial ⟨_, upd_same, (hrs.put k ((rx.ext e2).ext e3)).ext em⟩) ((((hs.ext e1).ext e2).ext e3).ext em)⟩
      · exact h3.elim
    · exact h3.elim
  | _ => exact h3.elim
theorem js_aug (i : Nat) {x : Str} {op : Operator} {f : Int → Int → Int} {pos' : Pos} (hN : X.N.Nodup) (ho : PIp X op (ipI f)) (he : JE X Cl E e ma) (hi : X.N[i]? = some x := by rfl) (hx : Loc X.env.scope x := by first | exact .inl rfl | exact .inr rfl) (hf : X.fn x = true ∨ X.env.scope.names.lookup x = some .local := by first | exact .inl rfl | exact .inr rfl) :
    JS X Cl E (.AugAssign (.Name x pos') op e pos) (mAug i ma f) := by
  obtain ⟨_, p1, q1⟩ := he.ex
  refine ⟨_, ps_aug hN hi hx p1 ho hf, fun β H σ s st D hr hs h => ?_⟩
  unfold mAug at h
  split at h
  · rename_i z ez
    obtain ⟨v, hv, rz⟩ := hs.2 i _ ez
    cases rz
    refine ⟨_, hv, q1 β H σ s st _ hr hs (h.run fun x st1 β1 H1 v _ e1 hr1 rx h1 => ?_)⟩
    cases x with
    | int b =>
      cases rx
      exact ⟨_, _, rfl, rfl, PoS.val h1 hr1 ((hs.ext e1).set (.int _))⟩
    | _ => exact h1.elim
  · exact h.elim
end

/-! ### while -/
/-- n: the turns at most -/
def mWhileN (c : MT) (body : MS) : Nat → MS
  | 0 => fun _ _ => .stuck
  | n + 1 => fun s st => (c s st).run fun k st1 => if k = true then
      match body s st1 with
      | .nx s2 st2 => mWhileN c body n s2 st2
      | .ct s2 st2 => mWhileN c body n s2 st2
      | .bk s2 st2 => .nx s2 st2
      | o => o
    else .nx s st1
section
variable {X : Cx} {Cl : Nat → Addr} {E : XK} {pos : Pos} {mc : MT} {mb : MS} {c : Expr} {body : List Stmt}
theorem ss_while {K : PySem.W.Frag} {tc : TT} {tb : TS} (hc : ST K Cl E tc mc) (hb : SS K Cl E tb mb) (n : Nat) : SS K Cl E (tWhile tc tb) (mWhileN mc mb n) := fun β H σ s st D hr hs h => by
  refine ⟨fun m σ' H' => ∃ β' s' st', HR K Cl β' H' st' ∧ SR K β' H' s' σ' ∧ PoS K Cl E D β' H' (mWhileN mc mb m s' st'), ⟨n, β, s, st, hr, hs, h⟩, ?_⟩
  rintro m σ1 H1 ⟨β1, s1, st1, hr1, hs1, h1⟩
  cases m with
  | zero => exact h1.elim
  | succ m =>
    unfold mWhileN at h1
    refine hc β1 H1 σ1 s1 st1 _ hr1 hs1 (h1.run fun k st2 β2 H2 kv _ e2 hr2 rk h2 => ?_)
    cases rk
    cases k with
    | false =>
      rw [if_neg Bool.false_ne_true] at h2 ⊢
      exact PoS.val h2 hr2 (hs1.ext e2)
    | true =>
      rw [if_pos rfl] at h2 ⊢
      refine ⟨fun σ' H' => ∃ β' s' st', HR K Cl β' H' st' ∧ SR K β' H' s' σ' ∧ PoS K Cl E D β' H' (mWhileN mc mb m s' st'), fun σ' H' q => ⟨m, Nat.lt_succ_self m, q⟩, hb β2 H2 σ1 s1 st2 _ hr2 (hs1.ext e2) ?_⟩
      cases eb : mb s1 st2 with
      | nx s3 st3 => rw [eb] at h2; exact fun β3 H3 σ3 e3 hr3 hs3 => ⟨β3, s3, st3, hr3, hs3, PoS.ext e3 h2⟩
      | ct s3 st3 => rw [eb] at h2; exact fun β3 H3 σ3 e3 hr3 hs3 => ⟨β3, s3, st3, hr3, hs3, PoS.ext e3 h2⟩
      | bk s3 st3 => rw [eb] at h2; exact h2
      | rt w st3 => rw [eb] at h2; exact h2
      | exc c fs st3 => rw [eb] at h2; exact h2
      | stuck => rw [eb] at h2; exact h2
theorem js_while (n : Nat) (hp : PassesOwn (model X.prog X.w) X.A X.env X.xe) (hc : JT X Cl E c mc) (hb : JSs X Cl E body mb) : JS X Cl E (.While c body [] pos) (mWhileN mc mb n) := by
  obtain ⟨_, p1, q1⟩ := hc.ex
  obtain ⟨_, p2, q2⟩ := hb.ex
  exact ⟨_, ps_while hp p1 p2, ss_while q1 q2 n⟩
end

/-! ### what is walked -/
/-- values that stand, or a list of the store of so many items -/
inductive Src where
  | vals (ws : List W) | cell (i n : Nat)
def Src.len : Src → Nat
  | .vals ws => ws.length
  | .cell _ n => n
def Src.at : Src → Nat → Sto → Option W
  | .vals ws, j, _ => ws[j]?
  | .cell i n, j, st => match st[i]? with
    | some (.lst ws) => if ws.length = n then ws[j]? else none
    | _ => none
def Src.fine : Src → Sto → Bool
  | .vals _, _ => true
  | .cell i n, st => match st[i]? with
    | some (.lst ws) => decide (ws.length = n)
    | _ => false
abbrev MI := Slo → Sto → Out Src
/-- the walk J goes over src, from (β0, H0) on -/
structure WalkS (K : PySem.W.Frag) (Cl : Nat → Addr) (β0 : Bt) (H0 : Hp) (J : It) (src : Src) : Prop where
  ex : ∃ G Y, Walk J src.len G Y ∧ (∀ β H st, Ext K β0 H0 β H → HR K Cl β H st → src.fine st = true → G H) ∧
    ∀ i H x H' β st w, Ext K β0 H0 β H → HR K Cl β H st → src.at i st = some w → Y i H x H' → Ext K β H β H' ∧ HR K Cl β H' st ∧ RV K β H' w x
def PoI (K : PySem.W.Frag) (Cl : Nat → Addr) (E : XK) (β : Bt) (H : Hp) (R : It → Hp → Prop) : Out Src → Prop
  | .ok src st => ∀ β' H' J, Ext K β H β' H' → HR K Cl β' H' st → WalkS K Cl β' H' J src → R J H'
  | .exc c fs st => ∀ β' H' d, Ext K β H β' H' → HR K Cl β' H' st → RX K β' H' fs d → E (.ref (Cl c)) d H'
  | .stuck => False
structure JI (X : Cx) (Cl : Nat → Addr) (E : XK) (tg iter : Expr) (m : MI) : Prop where
  ex : ∃ w, PI X tg iter w ∧ ∀ β H σ s st R, HR X.K Cl β H st → SR X.K β H s σ → PoI X.K Cl E β H R (m s st) → w σ H R
@[simp] def mILst (e : ME) : MI := fun s st => (e s st).bind fun x st1 => match x with
  | .lst ws => .ok (.vals ws) st1
  | .xst ws => .ok (.vals ws) st1
  | .ref i => match st1[i]? with
    | some (.lst ws) => .ok (.cell i ws.length) st1
    | _ => .stuck
  | _ => .stuck
@[simp] def mITup (e : ME) : MI := fun s st => (e s st).bind fun x st1 => match x with
  | .tup ws => .ok (.vals ws) st1
  | _ => .stuck
def rngW (lo : Int) (n : Nat) : List W := (List.range n).map fun i => .int (lo + (i : Nat))
/-- the bounds of a range's ends (by natAbs: the kernel does not count them) -/
def rngOk (j : Int) : Bool := decide (j.natAbs < 4611686018427387904)
theorem rngOk_iff {j : Int} (h : rngOk j = true) : -(2 ^ 62) ≤ j ∧ j < 2 ^ 62 := by
  have h2 : j.natAbs < 4611686018427387904 := of_decide_eq_true h
  have e : (2 : Int) ^ 62 = 4611686018427387904 := by decide
  rw [e]
  omega
@[simp] theorem rngOk_eq (j : Int) : (rngOk j = true) = (j.natAbs < 4611686018427387904) := by simp [rngOk]
@[simp] def mIRng1 (a : MA) : MI := fun s st => (a s st).bind fun xs st1 => match xs with
  | [.int j] => if rngOk j = true then .ok (.vals (rngW 0 j.toNat)) st1 else .stuck
  | _ => .stuck
@[simp] def mIRng2 (a : MA) : MI := fun s st => (a s st).bind fun xs st1 => match xs with
  | [.int i, .int j] => if rngOk i = true ∧ rngOk j = true then .ok (.vals (rngW i (j - i).toNat)) st1 else .stuck
  | _ => .stuck
/-- range(i, j, c), c positive -/
@[simp] def mIRng3 (a : MA) : MI := fun s st => (a s st).bind fun xs st1 => match xs with
  | [.int i, .int j, .int c] => if rngOk i = true ∧ rngOk j = true ∧ 0 < c ∧ c < 1073741824 then .ok (.vals ((List.range ((j - i + c - 1) / c).toNat).map fun k => .int (i + (k : Nat) * c))) st1 else .stuck
  | _ => .stuck
@[simp] def mIEnum (a : MA) : MI := fun s st => (a s st).bind fun xs st1 => match xs with
  | [.lst ws] => .ok (.vals ((List.range ws.length).map fun i => .tup [.int (i : Nat), ws.getD i .non])) st1
  | [.xst ws] => .ok (.vals ((List.range ws.length).map fun i => .tup [.int (i : Nat), ws.getD i .non])) st1
  | _ => .stuck
section
variable {X : Cx} {Cl : Nat → Addr} {E : XK} {pos p : Pos} {ma : ME} {mr : MA} {tg e a b c : Expr}
theorem Out.bindI {K : PySem.W.Frag} {β : Bt} {H : Hp} {α ω : Type} {R1 : Bt → Hp → α → ω → Prop} {R : It → Hp → Prop} {Q1 : ω → Hp → Prop} {o : Out α} {f : α → Sto → Out Src} (h : PoI K Cl E β H R (o.bind f))
    (k : ∀ a st1 β1 H1 v, o = .ok a st1 → Ext K β H β1 H1 → HR K Cl β1 H1 st1 → R1 β1 H1 a v → PoI K Cl E β1 H1 R (f a st1) → Q1 v H1) : PoG K Cl R1 E β H Q1 o := by
  cases o with
  | ok a st =>
    refine fun β1 H1 v e hr r => k a st β1 H1 v rfl e hr r ?_
    have h' : PoI K Cl E β H R (f a st) := h
    cases ef : f a st with
    | ok src st2 => rw [ef] at h'; exact fun β2 H2 J e2 hr2 w => h' β2 H2 J (e.trans e2) hr2 w
    | exc c fs st2 => rw [ef] at h'; exact fun β2 H2 d e2 hr2 w => h' β2 H2 d (e.trans e2) hr2 w
    | stuck => rw [ef] at h'; exact h'
  | exc c fs st => exact h
  | stuck => exact h
theorem walkS_list {K : PySem.W.Frag} {β : Bt} {H : Hp} {p : Addr} {ws : List W} {vs : List V} (hl : ∀ β' H', Ext K β H β' H' → SqL K H' p vs) (r : RVs K β H ws vs) : WalkS K Cl β H (Itl K p) (.vals ws) := by
  refine ⟨_, _, (show Walk (Itl K p) ws.length _ _ from by rw [r.length]; exact walk_list (xs := vs)), fun β' H' st e hr _ => hl β' H' e, fun i H1 x H2 β1 st w e hr hw y => ?_⟩
  obtain ⟨rfl, hx⟩ := y
  obtain ⟨v, hv, rv⟩ := r.get (show ws[i]? = some w from hw)
  rw [hx] at hv
  cases hv
  exact ⟨Ext.refl _ _ _, hr, rv.ext e⟩
theorem walkS_tup {K : PySem.W.Frag} {β : Bt} {H : Hp} {p : Addr} {ws : List W} {vs : List V} (hl : SqT K H p vs) (r : RVs K β H ws vs) : WalkS K Cl β H (Itt K p) (.vals ws) := by
  refine ⟨_, _, (show Walk (Itt K p) ws.length _ _ from by rw [r.length]; exact walk_tup (xs := vs)), fun β' H' st e hr _ => e.tup _ _ hl, fun i H1 x H2 β1 st w e hr hw y => ?_⟩
  obtain ⟨rfl, hx⟩ := y
  obtain ⟨v, hv, rv⟩ := r.get (show ws[i]? = some w from hw)
  rw [hx] at hv
  cases hv
  exact ⟨Ext.refl _ _ _, hr, rv.ext e⟩
theorem HR.stay {K : PySem.W.Frag} {β β' : Bt} {H H' : Hp} {st : Sto} {i : Nat} {a : Addr} {ob : Ob} (e : Ext K β H β' H') (hr : HR K Cl β' H' st) (hb : β.l[i]? = some (some a)) (hs : st[i]? = some ob) (hd : ob ≠ .dead) : β'.l[i]? = some (some a) := by
  rcases e.live _ _ hb with q | q
  · exact q
  · rw [hr.dead i q] at hs
    exact absurd (Option.some.inj hs).symm hd
theorem walkS_cell {K : PySem.W.Frag} {β : Bt} {H : Hp} {i n : Nat} {a : Addr} (hb : β.l[i]? = some (some a)) : WalkS K Cl β H (Itl K a) (.cell i n) := by
  refine ⟨fun H' => ∃ vs, SqL K H' a vs ∧ vs.length = n, fun j H1 x H2 => H2 = H1 ∧ ∀ xs, SqL K H1 a xs → xs[j]? = some x, ⟨fun j H1 hj ⟨vs, hq, hl⟩ => ⟨vs, vs[j]'(by rw [hl]; exact hj), hq, by simp [hl, show j < n from hj]⟩, fun H1 ⟨vs, hq, hl⟩ => ⟨vs, hq, by rw [hl]; exact Nat.le_refl _⟩, fun j H1 x H2 hj _ y => y⟩, fun β' H' st e hr hf => ?_, fun j H1 x H2 β1 st w e hr hw y => ?_⟩
  · unfold Src.fine at hf
    simp only at hf
    split at hf
    · rename_i ws es
      have hb' := hr.stay e hb es (by intro z; cases z)
      obtain ⟨vs, hv, hrs⟩ := hr.ob i a _ hb' es
      exact ⟨vs, SqL.of hv, by rw [← hrs.length]; exact of_decide_eq_true hf⟩
    · cases hf
  · obtain ⟨rfl, hx⟩ := y
    unfold Src.at at hw
    simp only at hw
    split at hw
    · rename_i ws es
      split at hw
      · have hb' := hr.stay e hb es (by intro z; cases z)
        obtain ⟨vs, hv, hrs⟩ := hr.ob i a _ hb' es
        obtain ⟨v, hv', rv⟩ := hrs.get hw
        rw [hx vs (SqL.of hv)] at hv'
        cases hv'
        exact ⟨Ext.refl _ _ _, hr, rv⟩
      · cases hw
    · cases hw
theorem ji_lst (h : JE X Cl E e ma) : JI X Cl E tg e (mILst ma) := by
  obtain ⟨t, p, q⟩ := h.ex
  refine ⟨_, pi_list p, fun β H σ s st R hr hs h => q β H σ s st _ hr hs (Out.bindI h fun x st1 β1 H1 v _ e1 hr1 rx h1 => ?_)⟩
  cases x with
  | lst ws =>
    cases rx with
    | lst hv hn r1 => exact ⟨_, rfl, ⟨_, SqL.of hv⟩, h1 β1 H1 _ (Ext.refl _ _ _) hr1 (walkS_list (fun β' H' e => SqL.of (e.lst _ _ hv hn).1) r1)⟩
  | xst ws =>
    cases rx with
    | xst hv r1 => exact ⟨_, rfl, ⟨_, KL.sq hv⟩, h1 β1 H1 _ (Ext.refl _ _ _) hr1 (walkS_list (fun β' H' e => KL.sq (hv.imp (fun x => x) fun ⟨o, x⟩ => ⟨o, e.frz _ _ _ x⟩)) r1)⟩
  | ref i =>
    simp only at h1
    split at h1
    · rename_i ws es
      obtain ⟨a, rfl, hb, vs, hv, hrs⟩ := rx.atRef hr1 es (by intro z; cases z)
      exact ⟨a, rfl, ⟨vs, SqL.of hv⟩, h1 β1 H1 _ (Ext.refl _ _ _) hr1 (walkS_cell hb)⟩
    · exact h1.elim
  | _ => exact h1.elim
theorem ji_tup (h : JE X Cl E e ma) : JI X Cl E tg e (mITup ma) := by
  obtain ⟨t, p, q⟩ := h.ex
  refine ⟨_, pi_tup p, fun β H σ s st R hr hs h => q β H σ s st _ hr hs (Out.bindI h fun x st1 β1 H1 v _ e1 hr1 rx h1 => ?_)⟩
  cases x with
  | tup ws =>
    cases rx with
    | tup hv r1 => exact ⟨_, rfl, ⟨_, hv⟩, h1 β1 H1 _ (Ext.refl _ _ _) hr1 (walkS_tup hv r1)⟩
  | _ => exact h1.elim
theorem walkS_rng {K : PySem.W.Frag} {β : Bt} {H : Hp} {lo : Int} {n : Nat} : WalkS K Cl β H (Itr lo n) (.vals (rngW lo n)) := by
  refine ⟨_, _, (show Walk (Itr lo n) (rngW lo n).length _ _ from by rw [show (rngW lo n).length = n by simp [rngW]]; exact walk_range), fun β' H' st e hr _ => trivial, fun i H1 x H2 β1 st w e hr hw y => ?_⟩
  obtain ⟨rfl, rfl⟩ := y
  have hw' : (rngW lo n)[i]? = some w := hw
  unfold rngW at hw'
  rw [List.getElem?_map] at hw'
  by_cases hi : i < n
  · rw [List.getElem?_range hi] at hw'
    cases hw'
    exact ⟨Ext.refl _ _ _, hr, .int _⟩
  · rw [List.getElem?_eq_none (by simp; omega)] at hw'
    cases hw'
theorem walkS_rngC {K : PySem.W.Frag} {β : Bt} {H : Hp} {lo c : Int} {n : Nat} : WalkS K Cl β H (Itc lo c n) (.vals ((List.range n).map fun k => .int (lo + (k : Nat) * c))) := by
  refine ⟨_, _, (show Walk (Itc lo c n) ((List.range n).map fun k => W.int (lo + (k : Nat) * c)).length _ _ from by rw [show ((List.range n).map fun k => W.int (lo + (k : Nat) * c)).length = n by simp]; exact walk_rangeC), fun β' H' st e hr _ => trivial, fun i H1 x H2 β1 st w e hr hw y => ?_⟩
  obtain ⟨rfl, rfl⟩ := y
  have hw' : ((List.range n).map fun k => W.int (lo + (k : Nat) * c))[i]? = some w := hw
  rw [List.getElem?_map] at hw'
  by_cases hi : i < n
  · rw [List.getElem?_range hi] at hw'
    cases hw'
    exact ⟨Ext.refl _ _ _, hr, .int _⟩
  · rw [List.getElem?_eq_none (by simp; omega)] at hw'
    cases hw'
theorem ji_rng1 (hm : X.mg "range" = none) (ha : JA X Cl E [a] mr) (hg : Gl X "range" := by rfl) (hs : starEach [a] X.env = [(false, eval a X.env)] := by rfl) : JI X Cl E tg (.Call (.Name "range" p) [a] [] pos) (mIRng1 mr) := by
  obtain ⟨t, pr, q⟩ := ha.ex
  refine ⟨_, pi_range1 hg hm pr hs, fun β H σ s st R hr hs h => q β H σ s st _ hr hs (Out.bindI h fun x st1 β1 H1 v _ e1 hr1 rx h1 => ?_)⟩
  split at h1
  · split at h1
    · rename_i hz
      obtain ⟨u, rfl, ru⟩ := rx.one
      cases ru
      exact ⟨_, rfl, (rngOk_iff hz).1, (rngOk_iff hz).2, h1 β1 H1 _ (Ext.refl _ _ _) hr1 walkS_rng⟩
    · exact h1.elim
  · exact h1.elim
theorem ji_rng2 (hm : X.mg "range" = none) (ha : JA X Cl E [a, b] mr) (hg : Gl X "range" := by rfl) (hs : starEach [a, b] X.env = [(false, eval a X.env), (false, eval b X.env)] := by rfl) (hs2 : starEach [b] X.env = [(false, eval b X.env)] := by rfl) : JI X Cl E tg (.Call (.Name "range" p) [a, b] [] pos) (mIRng2 mr) := by
  obtain ⟨t, pr, q⟩ := ha.ex
  refine ⟨_, pi_range2 hg hm pr hs hs2, fun β H σ s st R hr hs h => q β H σ s st _ hr hs (Out.bindI h fun x st1 β1 H1 v _ e1 hr1 rx h1 => ?_)⟩
  split at h1
  · split at h1
    · rename_i hz
      obtain ⟨u, w, rfl, ru, rw'⟩ := rx.two
      cases ru; cases rw'
      exact ⟨_, _, rfl, ⟨(rngOk_iff hz.1).1, (rngOk_iff hz.1).2, (rngOk_iff hz.2).1, (rngOk_iff hz.2).2⟩, h1 β1 H1 _ (Ext.refl _ _ _) hr1 walkS_rng⟩
    · exact h1.elim
  · exact h1.elim
end

/-! ### for -/
def mLoop (src : Src) (g : MG) (body : MS) : Nat → Nat → MS
  | 0, _ => fun s st => if src.fine st = true then .nx s st else .stuck
  | k + 1, i => fun s st => if src.fine st = true then match src.at i st with
      | some w => match g w s st with
        | some (s1, st1) => match body s1 st1 with
          | .nx s2 st2 => mLoop src g body k (i + 1) s2 st2
          | .ct s2 st2 => mLoop src g body k (i + 1) s2 st2
          | .bk s2 st2 => .nx s2 st2
          | o => o
        | none => .stuck
      | none => .stuck
    else .stuck
@[simp] def mFor (it : MI) (g : MG) (body : MS) : MS := fun s st => (it s st).run fun src st1 => mLoop src g body src.len 0 s st1
section
variable {X : Cx} {Cl : Nat → Addr} {E : XK} {pos : Pos} {mi : MI} {mg : MG} {mb : MS} {tg iter : Expr} {body : List Stmt}
theorem js_for (hp : PassesOwn (model X.prog X.w) X.A X.env X.xe) (hc : X.calm = true) (hi : JI X Cl E tg iter mi) (hg : JG X Cl tg mg) (hb : JSs X Cl E body mb) (hs : ∀ x, foldedSetIterable iter X.env x = pure x := by intro _; rfl) : JS X Cl E (.For tg iter body [] pos) (mFor mi mg mb) := by
  obtain ⟨_, p1, q1⟩ := hi.ex
  obtain ⟨_, p2, q2⟩ := hg.ex
  obtain ⟨_, p3, q3⟩ := hb.ex
  refine ⟨_, ps_for hp hc p1 p2 p3 hs, fun β H σ s st D hr hs h => q1 β H σ s st _ hr hs ?_⟩
  unfold mFor at h
  cases ei : mi s st with
  | stuck => rw [ei] at h; exact h
  | exc c fs st1 => rw [ei] at h; exact h
  | ok src st1 =>
    rw [ei] at h
    intro β1 H1 J e1 hr1 w
    have h1 : PoS X.K Cl E D β1 H1 (mLoop src mg mb src.len 0 s st1) := PoS.ext e1 h
    obtain ⟨G, Y, wk, hG, hY⟩ := w.ex
    have fine : ∀ k i s st, PoS X.K Cl E D β1 H1 (mLoop src mg mb k i s st) → src.fine st = true := fun k i s st hh => by
      cases k with
      | zero => unfold mLoop at hh; split at hh; assumption; exact hh.elim
      | succ k => unfold mLoop at hh; split at hh; assumption; exact hh.elim
    refine for_it wk (fun i σ' H' => ∃ β' s' st', Ext X.K β1 H1 β' H' ∧ HR X.K Cl β' H' st' ∧ SR X.K β' H' s' σ' ∧ src.fine st' = true ∧ PoS X.K Cl E D β' H' (mLoop src mg mb (src.len - i) i s' st')) ⟨β1, s, st1, Ext.refl _ _ _, hr1, hs.ext e1, fine _ _ _ _ h1, by rw [Nat.sub_zero]; exact h1⟩ (fun i σ' H' hi ⟨β', s', st', e', hr', hs', hf, h'⟩ => hG β' H' st' e' hr' hf) (fun i x σ' H' H2 hi ⟨β', s', st', e', hr', hs', hf, h'⟩ y => ?_) (fun σ' H' ⟨β', s', st', e', hr', hs', hf, h'⟩ => ?_)
    · obtain ⟨k, hk⟩ : ∃ k, src.len - i = k + 1 := ⟨src.len - i - 1, by omega⟩
      rw [hk] at h'
      unfold mLoop at h'
      rw [if_pos hf] at h'
      split at h'
      · rename_i w ew
        obtain ⟨e2, hr2, rw2⟩ := hY i H' x H2 β' st' w e' hr' ew y
        refine q2 β' H2 σ' s' st' w x _ hr2 (hs'.ext e2) rw2 ?_
        split at h'
        · rename_i s3 st3 eg
          rw [eg]
          intro β3 H3 σ3 e3 hr3 hs3
          refine q3 β3 H3 σ3 s3 st3 _ hr3 hs3 ?_
          have e23 := e2.trans e3
          have nxt : ∀ s4 st4, PoS X.K Cl E D β' H' (mLoop src mg mb k (i + 1) s4 st4) → ∀ β4 H4 σ4, Ext X.K β3 H3 β4 H4 → HR X.K Cl β4 H4 st4 → SR X.K β4 H4 s4 σ4 → ∃ β' s' st', Ext X.K β1 H1 β' H4 ∧ HR X.K Cl β' H4 st' ∧ SR X.K β' H4 s' σ4 ∧ src.fine st' = true ∧ PoS X.K Cl E D β' H4 (mLoop src mg mb (src.len - (i + 1)) (i + 1) s' st') := fun s4 st4 h4 β4 H4 σ4 e4 hr4 hs4 => by
            have hk' : src.len - (i + 1) = k := by omega
            refine ⟨β4, s4, st4, e'.trans (e23.trans e4), hr4, hs4, ?_, by rw [hk']; exact PoS.ext (e23.trans e4) h4⟩
            cases k with
            | zero => unfold mLoop at h4; split at h4; assumption; exact h4.elim
            | succ k => unfold mLoop at h4; split at h4; assumption; exact h4.elim
          cases eb : mb s3 st3 with
          | nx s4 st4 => rw [eb] at h'; exact nxt s4 st4 h'
          | ct s4 st4 => rw [eb] at h'; exact nxt s4 st4 h'
          | bk s4 st4 => rw [eb] at h'; exact PoS.ext e23 h'
          | rt w4 st4 => rw [eb] at h'; exact PoS.ext e23 h'
          | exc c4 fs4 st4 => rw [eb] at h'; exact PoS.ext e23 h'
          | stuck => rw [eb] at h'; exact h'
        · exact h'.elim
      · exact h'.elim
    · rw [Nat.sub_self] at h'
      unfold mLoop at h'
      rw [if_pos hf] at h'
      exact PoS.val h' hr' hs'
end
end Mi
/-! The mirror layer, part F: comprehensions, defs and their calls, methods, new instances, the law's end. -/
namespace Mi
open PySem L2 PyProof.Rows

/-! ### one reading for each mirror -/
def tM (K : PySem.W.Frag) (Cl : Nat → Addr) (E : XK) (m : ME) : TE := fun σ H Q => ∃ β s st, HR K Cl β H st ∧ SR K β H s σ ∧ Po K Cl E β H Q (m s st)
def tMT (K : PySem.W.Frag) (Cl : Nat → Addr) (E : XK) (m : MT) : TT := fun σ H Q => ∃ β s st, HR K Cl β H st ∧ SR K β H s σ ∧ PoB K Cl E β H Q (m s st)
section
variable {X : Cx} {Cl : Nat → Addr} {E : XK} {e : Expr} {m : ME} {mt : MT}
theorem JE.pe (h : JE X Cl E e m) : PE X e (tM X.K Cl E m) := by
  obtain ⟨t, p, q⟩ := h.ex
  exact ⟨fun pins s σ H Q I ⟨β, sl, st, hr, hs, hp⟩ => p.run pins s σ H Q I (q β H σ sl st Q hr hs hp)⟩
theorem JT.pt (h : JT X Cl E e mt) : PT X e (tMT X.K Cl E mt) := by
  obtain ⟨t, p, q⟩ := h.ex
  exact ⟨fun pins s σ H Q I ⟨β, sl, st, hr, hs, hp⟩ => p.run pins s σ H Q I (q β H σ sl st Q hr hs hp)⟩
theorem se_m {K : PySem.W.Frag} : SE K Cl E (tM K Cl E m) m := fun β H σ s st Q hr hs h => ⟨β, s, st, hr, hs, h⟩
theorem st_m {K : PySem.W.Frag} : ST K Cl E (tMT K Cl E mt) mt := fun β H σ s st Q hr hs h => ⟨β, s, st, hr, hs, h⟩
end

/-! ### targets within a comprehension: they change its own names alone -/
theorem wipe_at {σ : L2.St} {j : Nat} : ∀ {vs : List Nat}, (wipe σ vs)[j]? = if j ∈ vs ∧ j < σ.length then some none else σ[j]?
  | [] => by simp [wipe]
  | v :: vs => by
    unfold wipe
    have ih := wipe_at (σ := σ) (j := j) (vs := vs)
    by_cases h : v = j
    · subst h
      by_cases hl : v < σ.length
      · rw [List.getElem?_set_self (by rw [wipe_length]; exact hl), if_pos ⟨List.mem_cons_self, hl⟩]
      · rw [List.getElem?_eq_none (by rw [List.length_set, wipe_length]; omega), if_neg (fun z => hl z.2), List.getElem?_eq_none (by omega)]
    · rw [List.getElem?_set_ne h, ih]
      by_cases hm : j ∈ vs ∧ j < σ.length
      · rw [if_pos hm, if_pos ⟨List.mem_cons_of_mem _ hm.1, hm.2⟩]
      · rw [if_neg hm, if_neg]
        rintro ⟨h1, h2⟩
        rcases List.mem_cons.mp h1 with z | z
        · exact h z.symm
        · exact hm ⟨z, h2⟩
theorem wipe_set {σ : L2.St} {i : Nat} {x : Option V} {vs : List Nat} (hi : i ∈ vs) : wipe (σ.set i x) vs = wipe σ vs := by
  apply List.ext_getElem?
  intro j
  rw [wipe_at, wipe_at, List.length_set]
  by_cases hm : j ∈ vs ∧ j < σ.length
  · rw [if_pos hm, if_pos hm]
  · rw [if_neg hm, if_neg hm]
    by_cases e : i = j
    · subst e
      have hl : ¬ i < σ.length := fun z => hm ⟨hi, z⟩
      rw [List.getElem?_eq_none (by rw [List.length_set]; omega), List.getElem?_eq_none (by omega)]
    · rw [List.getElem?_set_ne e]
def wipeW (s : Slo) : List Nat → Slo
  | [] => s
  | v :: vs => (wipeW s vs).set v none
def PoW (K : PySem.W.Frag) (Cl : Nat → Addr) (vs : List Nat) (σ : L2.St) (Q : L2.St → Hp → Prop) (β : Bt) (H : Hp) : Option (Slo × Sto) → Prop
  | some (s, st) => ∀ β' H' σ', wipe σ' vs = wipe σ vs → Ext K β H β' H' → HR K Cl β' H' st → SR K β' H' s σ' → Q σ' H'
  | none => False
theorem PoW.ext {K : PySem.W.Frag} {Cl : Nat → Addr} {vs : List Nat} {σ : L2.St} {Q : L2.St → Hp → Prop} {β β' : Bt} {H H' : Hp} {o : Option (Slo × Sto)} (e : Ext K β H β' H') (h : PoW K Cl vs σ Q β H o) : PoW K Cl vs σ Q β' H' o := by
  cases o with
  | some p => exact fun β2 H2 σ2 w e2 hr hs => h β2 H2 σ2 w (e.trans e2) hr hs
  | none => exact h
def SGW (K : PySem.W.Frag) (Cl : Nat → Addr) (vs : List Nat) (g : TG) (m : MG) : Prop := ∀ β H σ s st w v Q, HR K Cl β H st → SR K β H s σ → RV K β H w v → PoW K Cl vs σ Q β H (m w s st) → g v σ H Q
def SGsW (K : PySem.W.Frag) (Cl : Nat → Addr) (vs : List Nat) (g : TGs) (m : MGs) : Prop := ∀ β H σ s st ws us Q, HR K Cl β H st → SR K β H s σ → RVs K β H ws us → PoW K Cl vs σ Q β H (m ws s st) → g us σ H Q
/-- names of a comprehension's target, told as readings -/
inductive NT where
  | nm (i : Nat) | tp (ns : List NT)
mutual
def NT.g (K : PySem.W.Frag) : NT → TG
  | .nm i => gName i
  | .tp ns => gTup K ns.length (NT.gs K ns)
def NT.gs (K : PySem.W.Frag) : List NT → TGs
  | [] => gNil
  | n :: ns => gCons (NT.g K n) (NT.gs K ns)
end
mutual
def NT.m : NT → MG
  | .nm i => mGN i
  | .tp ns => mGTup ns.length (NT.ms ns)
def NT.ms : List NT → MGs
  | [] => mGNil
  | n :: ns => mGCons (NT.m n) (NT.ms ns)
end
mutual
def NT.within (vs : List Nat) : NT → Bool
  | .nm i => vs.contains i
  | .tp ns => NT.withins vs ns
def NT.withins (vs : List Nat) : List NT → Bool
  | [] => true
  | n :: ns => NT.within vs n && NT.withins vs ns
end
mutual
theorem NT.ok {K : PySem.W.Frag} {Cl : Nat → Addr} {vs : List Nat} : ∀ n : NT, NT.within vs n = true → SGW K Cl vs (NT.g K n) (NT.m n)
  | .nm i, hw => fun β H σ s st w v Q hr hs rw h => by
    simp only [NT.within] at hw
    exact h β H _ (wipe_set (List.contains_iff_mem.mp hw)) (Ext.refl _ _ _) hr (hs.set rw)
  | .tp ns, hw => fun β H σ s st w v Q hr hs rw h => by
    simp only [NT.within] at hw
    simp only [NT.m, mGTup] at h
    simp only [NT.g]
    split at h
    · split at h
      · rename_i hl
        cases rw with
        | tup h1 r1 => exact ⟨_, _, rfl, h1, by rw [← r1.length]; exact hl, NT.oks ns hw β H σ s st _ _ Q hr hs r1 h⟩
      · exact h.elim
    · exact h.elim
theorem NT.oks {K : PySem.W.Frag} {Cl : Nat → Addr} {vs : List Nat} : ∀ ns : List NT, NT.withins vs ns = true → SGsW K Cl vs (NT.gs K ns) (NT.ms ns)
  | [], hw => fun β H σ s st ws us Q hr hs rw h => by
    simp only [NT.ms, mGNil] at h
    simp only [NT.gs]
    split at h
    · cases rw
      exact ⟨rfl, h β H σ rfl (Ext.refl _ _ _) hr hs⟩
    · exact h.elim
  | n :: ns, hw => fun β H σ s st ws us Q hr hs rw h => by
    simp only [NT.withins, Bool.and_eq_true] at hw
    simp only [NT.ms, mGCons] at h
    simp only [NT.gs]
    split at h
    · cases rw with
      | cons r1 r2 =>
        refine ⟨_, _, rfl, NT.ok n hw.1 β H σ s st _ _ _ hr hs r1 ?_⟩
        split at h
        · rename_i s1 st1 e
          rw [e]
          exact fun β1 H1 σ1 w1 e1 hr1 hs1 => NT.oks ns hw.2 β1 H1 σ1 s1 st1 _ _ Q hr1 hs1 (r2.ext e1) (by
            have h' := PoW.ext e1 h
            revert h'
            unfold PoW
            split
            · exact fun h' β2 H2 σ2 w2 e2 hr2 hs2 => h' β2 H2 σ2 (w2.trans w1) e2 hr2 hs2
            · exact fun z => z)
        · exact h.elim
    · exact h.elim
end
/-- the target is read as n -/
structure JN (X : Cx) (tg : Expr) (n : NT) : Prop where
  pg : PG X tg (NT.g X.K n)
structure JNs (X : Cx) (tgs : List Expr) (ns : List NT) : Prop where
  pg : PGs X tgs (NT.gs X.K ns)
  len : tgs.length = ns.length
theorem jn_nm {X : Cx} {pos : Pos} (i : Nat) {x : Str} (hN : X.N.Nodup) (hi : X.N[i]? = some x := by rfl) (hx : Loc X.env.scope x := by first | exact .inl rfl | exact .inr rfl) (hf : X.fn x = true ∨ X.env.scope.names.lookup x = some .local := by first | exact .inl rfl | exact .inr rfl) : JN X (.Name x pos) (.nm i) := ⟨pg_name hN hi hx hf⟩
theorem jns_nil {X : Cx} : JNs X [] [] := ⟨pgs_nil, rfl⟩
theorem jns_cons {X : Cx} {t : Expr} {ts : List Expr} {n : NT} {ns : List NT} (h1 : JN X t n) (h2 : JNs X ts ns) (hs : (assignEach (t :: ts) X.env).map (·.2) = assign t X.env :: (assignEach ts X.env).map (·.2) := by rfl) : JNs X (t :: ts) (n :: ns) := ⟨pgs_cons h1.pg h2.pg hs, by rw [List.length_cons, List.length_cons, h2.len]⟩
theorem jn_tp {X : Cx} {ts : List Expr} {ns : List NT} {k : Nat} {pos : Pos} (hc : X.calm = true) (h : JNs X ts ns) (hn : (assignEach ts X.env).length = ns.length := by rfl) (hst : (assignEach ts X.env).findIdx? (·.1) = none := by rfl) : JN X (.Tuple ts k pos) (.tp ns) := ⟨pg_tup hc h.pg hn hst⟩

/-! ### list comprehensions -/
def mLcLoop (src : Src) (g : MG) (t : MT) (e : ME) (s : Slo) : Nat → Nat → List W → Sto → Out (List W)
  | 0, _, acc, st => if src.fine st = true then .ok acc st else .stuck
  | k + 1, i, acc, st => if src.fine st = true then match src.at i st with
      | some w => match g w s st with
        | some (s2, st1) => match t s2 st1 with
          | .ok true st2 => match e s2 st2 with
            | .ok y st3 => if acc.length < sizeLine then mLcLoop src g t e s k (i + 1) (acc ++ [y]) st3 else .stuck
            | _ => .stuck
          | .ok false st2 => mLcLoop src g t e s k (i + 1) acc st2
          | _ => .stuck
        | none => .stuck
      | none => .stuck
    else .stuck
@[simp] def mLc (it : MI) (n : NT) (t : MT) (e : ME) (vs : List Nat) : ME := fun s st => (it s st).bind fun src st1 => (mLcLoop src (NT.m n) t e (wipeW s vs) src.len 0 [] st1).bind fun ws st2 => .ok (.lst ws) st2
/-- the same, the list an object of the store -/
@[simp] def mLcS (it : MI) (n : NT) (t : MT) (e : ME) (vs : List Nat) : ME := fun s st => (it s st).bind fun src st1 => (mLcLoop src (NT.m n) t e (wipeW s vs) src.len 0 [] st1).bind fun ws st2 => .ok (.ref st2.length) (st2 ++ [.lst ws])
@[simp] def mYes : MT := fun _ st => .ok true st
structure JTs (X : Cx) (Cl : Nat → Addr) (E : XK) (cs : List Expr) (m : MT) : Prop where
  ex : PTs X cs (tMT X.K Cl E m)
section
variable {X : Cx} {Cl : Nat → Addr} {E : XK}
theorem jts_nil : JTs X Cl E [] mYes := ⟨⟨fun pins s σ H Q I ⟨β, sl, st, hr, hs, hp⟩ => pts_nil.run pins s σ H Q I (PoG.val hp hr rfl)⟩⟩
theorem jts_one {c : Expr} {m : MT} (h : JT X Cl E c m) : JTs X Cl E [c] m := ⟨pts_one h.pt⟩
theorem SR.wipe {K : PySem.W.Frag} {β : Bt} {H : Hp} {s : Slo} {σ : L2.St} (h : SR K β H s σ) : ∀ vs : List Nat, SR K β H (wipeW s vs) (L2.wipe σ vs)
  | [] => h
  | v :: vs => by
    have ih := SR.wipe h vs
    refine ⟨by show ((wipeW s vs).set v none).length = ((L2.wipe σ vs).set v none).length; rw [List.length_set, List.length_set, ih.1], fun i w hi => ?_⟩
    have hi : ((wipeW s vs).set v none)[i]? = some (some w) := hi
    show ∃ x, ((L2.wipe σ vs).set v none)[i]? = some (some x) ∧ RV K β H w x
    by_cases e : v = i
    · subst e
      by_cases hl : v < (wipeW s vs).length
      · rw [List.getElem?_set_self hl] at hi; cases hi
      · rw [List.getElem?_eq_none (by rw [List.length_set]; omega)] at hi; cases hi
    · rw [List.getElem?_set_ne e] at hi ⊢
      exact ih.2 i w hi
theorem PoW.E0 {K : PySem.W.Frag} {α ω : Type} {R : Bt → Hp → α → ω → Prop} {β : Bt} {H : Hp} {Q : ω → Hp → Prop} {o : Out α} (h : PoG K Cl R E β H Q o) (hx : ∀ c fs st, o ≠ .exc c fs st) : PoG K Cl R E0 β H Q o := by
  cases o with
  | ok a st => exact h
  | exc c fs st => exact absurd rfl (hx c fs st)
  | stuck => exact h
theorem se_lcG {K : PySem.W.Frag} {wi : TI} {mi : MI} {n : NT} {mt : MT} {me : ME} {vs : List Nat} (kk : List W → Sto → Out W) (hw : NT.within vs n = true) (hi : ∀ β H σ s st R, HR K Cl β H st → SR K β H s σ → PoI K Cl E β H R (mi s st) → wi σ H R)
    (hk : ∀ (β1 : Bt) (H1 : Hp) (st1 : Sto) (β' : Bt) (H' : Hp) (D : Addr) (acs : List V) (ws : List W) (st' : Sto) (Q : VK), HR K Cl β1 H1 st1 → Ext K β1 H1 β' H' → HR K Cl β' H' st' → D ∈ β'.pr → H' D = some (.lst acs) → RVs K β' H' ws acs → H1 D = none → PoG K Cl (RV K) E β1 H1 Q (kk ws st') → Q (.ref D) H') :
    SE K Cl E (tLc wi (NT.g K n) (tMT K Cl E0 mt) (tM K Cl E0 me) vs) (fun s st => (mi s st).bind fun src st1 => (mLcLoop src (NT.m n) mt me (wipeW s vs) src.len 0 [] st1).bind kk) := fun β H σ s st Q hr hs h => by
  refine hi β H σ s st _ hr hs ?_
  simp only at h
  cases ei : mi s st with
  | stuck => rw [ei] at h; exact h
  | exc c fs st1 => rw [ei] at h; exact h
  | ok src st1 =>
    rw [ei] at h
    intro β1 H1 J e1 hr1 w D hD
    obtain ⟨G, Y, wk, hG, hY⟩ := w.ex
    have eg : Ext K β1 H1 (β1.guard D) (upd H1 D (.lst [])) := Ext.guard hD
    have hrg : HR K Cl (β1.guard D) (upd H1 D (.lst [])) st1 := hr1.guard hD
    have hws : SR K β1 H1 (wipeW s vs) (wipe σ vs) := (hs.ext e1).wipe vs
    have h1 : PoG K Cl (RV K) E β1 H1 Q ((mLcLoop src (NT.m n) mt me (wipeW s vs) src.len 0 [] st1).bind kk) := PoG.ext e1 h
    have fine : ∀ k i acc st, (∃ ws st2, mLcLoop src (NT.m n) mt me (wipeW s vs) k i acc st = .ok ws st2) → src.fine st = true := fun k i acc st hh => by
      obtain ⟨ws, st2, hh⟩ := hh
      cases k with
      | zero => unfold mLcLoop at hh; split at hh; assumption; cases hh
      | succ k => unfold mLcLoop at hh; split at hh; assumption; cases hh
    -- the loop comes to an end
    have noexc : ∀ k i acc st c fs st2, mLcLoop src (NT.m n) mt me (wipeW s vs) k i acc st ≠ .exc c fs st2 := fun k => by
      induction k with
      | zero => intro i acc st c fs st2 z; unfold mLcLoop at z; split at z <;> cases z
      | succ k ih =>
        intro i acc st c fs st2 z
        unfold mLcLoop at z
        split at z
        · split at z
          · split at z
            · split at z
              · split at z
                · split at z
                  · exact ih _ _ _ _ _ _ z
                  · cases z
                · cases z
              · exact ih _ _ _ _ _ _ z
              · cases z
            · cases z
          · cases z
        · cases z
    obtain ⟨rs, stE, he⟩ : ∃ rs stE, mLcLoop src (NT.m n) mt me (wipeW s vs) src.len 0 [] st1 = .ok rs stE := by
      cases eo : mLcLoop src (NT.m n) mt me (wipeW s vs) src.len 0 [] st1 with
      | ok a b => exact ⟨a, b, rfl⟩
      | exc c fs st2 => exact absurd eo (noexc _ _ _ _ _ _ _)
      | stuck => rw [eo] at h1; exact h1.elim
    rw [he] at h1
    have hQ : PoG K Cl (RV K) E β1 H1 Q (kk rs stE) := h1
    refine lc_it wk (fun i H' => ∃ β' acc as st', Ext K β1 H1 β' H' ∧ HR K Cl β' H' st' ∧ D ∈ β'.pr ∧ H' D = some (.lst as) ∧ RVs K β' H' acc as ∧ src.fine st' = true ∧ mLcLoop src (NT.m n) mt me (wipeW s vs) (src.len - i) i acc st' = .ok rs stE)
      ⟨β1.guard D, [], [], st1, eg, hrg, List.mem_cons_self, upd_same, .nil, fine _ _ _ _ ⟨_, _, he⟩, by rw [Nat.sub_zero]; exact he⟩ (fun i H' hi ⟨β', acc, as, st', e', hr', hp', hd', ra, hf, h'⟩ => hG β' H' st' e' hr' hf) (fun i x H' H2 hi ⟨β', acc, as, st', e', hr', hp', hd', ra, hf, h'⟩ y => ?_) (fun H' ⟨β', acc, as, st', e', hr', hp', hd', ra, hf, h'⟩ => ?_)
    · obtain ⟨k, hk⟩ : ∃ k, src.len - i = k + 1 := ⟨src.len - i - 1, by omega⟩
      have hk' : src.len - (i + 1) = k := by omega
      rw [hk] at h'
      unfold mLcLoop at h'
      rw [if_pos hf] at h'
      split at h'
      · rename_i w ew
        obtain ⟨e2, hr2, rw2⟩ := hY i H' x H2 β' st' w e' hr' ew y
        refine NT.ok n hw β' H2 (wipe σ vs) (wipeW s vs) st' w x _ hr2 (hws.ext (e'.trans e2)) rw2 ?_
        split at h'
        · rename_i s3 st3 eg'
          rw [eg']
          intro β3 H3 σ3 w3 e3 hr3 hs3
          refine ⟨by rw [w3]; exact wipe_idem, β3, s3, st3, hr3, hs3, ?_⟩
          have keepD : ∀ {β4 : Bt} {H4 : Hp}, Ext K β' H' β4 H4 → D ∈ β4.pr ∧ H4 D = some (.lst as) := fun e4 => e4.prot D hp' _ hd'
          split at h'
          · rename_i st4 et
            rw [et]
            intro β4 H4 b e4 hr4 eb
            subst eb
            rw [if_pos rfl]
            have hs4 := hs3.ext e4
            refine ⟨β4, s3, st4, hr4, hs4, ?_⟩
            split at h'
            · rename_i yv st5 ee
              rw [ee]
              intro β5 H5 yV e5 hr5 ry
              split at h'
              · rename_i hz
                have e25 := (e2.trans e3).trans (e4.trans e5)
                obtain ⟨hp5, hd5⟩ := keepD e25
                have ra5 := ra.ext e25
                refine ⟨as, hd5, by rw [← ra.length]; exact hz, ?_⟩
                have kp : Keep K β5 H5 (upd H5 D (.lst (as ++ [yV]))) := Keep.gset hd5 hp5
                exact ⟨β5, acc ++ [yv], as ++ [yV], st5, Ext.gset hd5 hp5 β1 H1 (e'.trans e25) hD, hr5.gset hd5 hp5, hp5, upd_same, (ra5.append (.cons ry .nil)).keep kp, fine _ _ _ _ ⟨_, _, h'⟩, by rw [hk']; exact h'⟩
              · cases h'
            · cases h'
          · rename_i st4 et
            rw [et]
            intro β4 H4 b e4 hr4 eb
            subst eb
            rw [if_neg Bool.false_ne_true]
            have e24 := (e2.trans e3).trans e4
            obtain ⟨hp4, hd4⟩ := keepD e24
            exact ⟨β4, acc, as, st4, e'.trans e24, hr4, hp4, hd4, ra.ext e24, fine _ _ _ _ ⟨_, _, h'⟩, by rw [hk']; exact h'⟩
          · cases h'
        · cases h'
      · cases h'
    · rw [Nat.sub_self] at h'
      unfold mLcLoop at h'
      rw [if_pos hf] at h'
      cases h'
      exact hk β1 H1 st1 β' H' D _ _ _ Q hr1 e' hr' hp' hd' ra hD hQ
where
  wipe_idem {σ : L2.St} {vs : List Nat} : wipe (wipe σ vs) vs = wipe σ vs := by
    apply List.ext_getElem?
    intro j
    rw [wipe_at, wipe_at, wipe_length]
    by_cases hm : j ∈ vs ∧ j < σ.length
    · rw [if_pos hm, if_pos hm]
    · rw [if_neg hm, if_neg hm]
theorem se_lc {K : PySem.W.Frag} {wi : TI} {mi : MI} {n : NT} {mt : MT} {me : ME} {vs : List Nat} (hw : NT.within vs n = true) (hi : ∀ β H σ s st R, HR K Cl β H st → SR K β H s σ → PoI K Cl E β H R (mi s st) → wi σ H R) :
    SE K Cl E (tLc wi (NT.g K n) (tMT K Cl E0 mt) (tM K Cl E0 me) vs) (mLc mi n mt me vs) :=
  se_lcG _ hw hi fun β1 H1 st1 β' H' D acs ws st' Q hr1 e' hr' hp' hd' ra hD h => by
    have hsub : ∀ q, q ∈ β'.pr.filter (fun q => decide (q ≠ D)) → q ∈ β'.pr := fun q hq => (List.mem_filter.mp hq).1
    refine h ⟨β'.l, β'.pr.filter fun q => decide (q ≠ D)⟩ H' _ (Ext.drop e' (fun q hq => (hr1.prot q hq).1) hD) (hr'.drop rfl hsub) (.lst hd' ⟨(hr'.prot D hp').2, fun z => ?_⟩ (RVs.drop' (β := β') (β' := ⟨β'.l, β'.pr.filter fun q => decide (q ≠ D)⟩) rfl hsub ra))
    exact absurd rfl (of_decide_eq_true (List.mem_filter.mp z).2)
theorem live_app {l : List (Option Addr)} {x : Option Addr} {i : Nat} {o : Option Addr} (h : l[i]? = some o) : (l ++ [x])[i]? = some o := by
  rw [List.getElem?_append_left (List.getElem?_eq_some_iff.mp h).1]; exact h
theorem app_at {l : List (Option Addr)} {x y : Option Addr} {i : Nat} (h : (l ++ [x])[i]? = some y) : l[i]? = some y ∨ (i = l.length ∧ x = y) := by
  rcases Nat.lt_trichotomy i l.length with c | c | c
  · rw [List.getElem?_append_left c] at h; exact .inl h
  · subst c
    rw [List.getElem?_append_right (Nat.le_refl _)] at h
    simp at h
    exact .inr ⟨rfl, h⟩
  · rw [List.getElem?_eq_none (by simp; omega)] at h; cases h
mutual
/-- a value's relation where the store's table has grown by an address that nobody holds as a list -/
theorem RV.adopt {K : PySem.W.Frag} {β : Bt} {H : Hp} {D : Addr} {pr : List Addr} (hp : ∀ q, q ∈ pr → q ∈ β.pr) (hD : D ∈ β.pr) : ∀ {w : W} {v : V}, RV K β H w v → RV K ⟨β.l ++ [some D], pr⟩ H w v
  | _, _, .non => .non
  | _, _, .bl b => .bl b
  | _, _, .int i => .int i
  | _, _, .str x => .str x
  | _, _, .tup h r => .tup h (RVs.adopt hp hD r)
  | _, _, .lst h n r => .lst h ⟨fun i z => by
      rcases app_at z with z | ⟨_, z⟩
      · exact n.1 i z
      · cases z; exact n.2 hD, fun z => n.2 (hp _ z)⟩ (RVs.adopt hp hD r)
  | _, _, .xst h r => .xst h (RVs.adopt hp hD r)
  | _, _, .ref h => .ref (live_app h)
  | _, _, .dead h => .dead (live_app h)
theorem RVs.adopt {K : PySem.W.Frag} {β : Bt} {H : Hp} {D : Addr} {pr : List Addr} (hp : ∀ q, q ∈ pr → q ∈ β.pr) (hD : D ∈ β.pr) : ∀ {ws : List W} {vs : List V}, RVs K β H ws vs → RVs K ⟨β.l ++ [some D], pr⟩ H ws vs
  | _, _, .nil => .nil
  | _, _, .cons h r => .cons (RV.adopt hp hD h) (RVs.adopt hp hD r)
end
theorem RF.adopt {K : PySem.W.Frag} {β : Bt} {H : Hp} {D : Addr} {pr : List Addr} {κ : Type} (hp : ∀ q, q ∈ pr → q ∈ β.pr) (hD : D ∈ β.pr) : ∀ {ws : List (κ × W)} {vs : List (κ × V)}, RF K β H ws vs → RF K ⟨β.l ++ [some D], pr⟩ H ws vs
  | _, _, .nil => .nil
  | _, _, .cons h r => .cons (RV.adopt hp hD h) (RF.adopt hp hD r)
theorem ro_adopt {K : PySem.W.Frag} {Cl : Nat → Addr} {β : Bt} {H : Hp} {D : Addr} {pr : List Addr} (hp : ∀ q, q ∈ pr → q ∈ β.pr) (hD : D ∈ β.pr) {a : Addr} {o : Ob} (h : RO K Cl β H a o) : RO K Cl (Bt.mk (β.l ++ [some D]) pr) H a o := by
  cases o with
  | lst xs => obtain ⟨vs, h1, h2⟩ := h; exact ⟨vs, h1, h2.adopt hp hD⟩
  | dK kvs => obtain ⟨vs, h1, h2⟩ := h; exact ⟨vs, h1, h2.adopt hp hD⟩
  | dT kvs => obtain ⟨vs, h1, h2⟩ := h; exact ⟨vs, h1, h2.adopt hp hD⟩
  | ins c fs => obtain ⟨d, vs, h1, h2⟩ := h; exact ⟨d, vs, h1, h2.adopt hp hD⟩
  | dead => exact h
theorem se_lcS {K : PySem.W.Frag} {wi : TI} {mi : MI} {n : NT} {mt : MT} {me : ME} {vs : List Nat} (hw : NT.within vs n = true) (hi : ∀ β H σ s st R, HR K Cl β H st → SR K β H s σ → PoI K Cl E β H R (mi s st) → wi σ H R) :
    SE K Cl E (tLc wi (NT.g K n) (tMT K Cl E0 mt) (tM K Cl E0 me) vs) (mLcS mi n mt me vs) :=
  se_lcG _ hw hi fun β1 H1 st1 β' H' D acs ws st' Q hr1 e' hr' hp' hd' ra hD h => by
    have hsub : ∀ q, q ∈ β'.pr.filter (fun q => decide (q ≠ D)) → q ∈ β'.pr := fun q hq => (List.mem_filter.mp hq).1
    have nD : ∀ i : Nat, β'.l[i]? ≠ some (some D) := (hr'.prot D hp').2
    have ed := Ext.drop e' (fun q hq => (hr1.prot q hq).1) hD
    have ra' := ra.adopt hsub hp'
    refine h ⟨β'.l ++ [some D], β'.pr.filter fun q => decide (q ≠ D)⟩ H' _ ⟨ed.tup, fun q us hq n => ⟨(ed.lst q us hq n).1, fun i z => ?_, (ed.lst q us hq n).2.2⟩, ed.frz, fun i o hi => (ed.live i o hi).imp live_app live_app, ed.prot⟩ ⟨?_, ?_, ?_, ?_, ?_⟩ (.ref ?_)
    · rcases app_at z with z | ⟨_, z⟩
      · exact (ed.lst q us hq n).2.1 i z
      · cases z; rw [hD] at hq; cases hq
    · rw [List.length_append, List.length_append, hr'.len] <;> rfl
    · intro i j a hi hj
      rcases app_at hi with hi | ⟨hi, ei⟩
      · rcases app_at hj with hj | ⟨hj, ej⟩
        · exact hr'.inj i j a hi hj
        · cases ej; exact absurd hi (nD i)
      · rcases app_at hj with hj | ⟨hj, ej⟩
        · cases ei; exact absurd hj (nD j)
        · rw [hi, hj]
    · intro i a ob hi0 ho
      rcases app_at hi0 with hi | ⟨hi, ei⟩
      · have hl : i < st'.length := by rw [← hr'.len]; exact (List.getElem?_eq_some_iff.mp hi).1
        rw [List.getElem?_append_left hl] at ho
        exact ro_adopt hsub hp' (hr'.ob i a ob hi ho)
      · cases ei
        rw [hi, hr'.len, List.getElem?_append_right (Nat.le_refl _), Nat.sub_self] at ho
        cases ho
        exact ⟨acs, hd', ra'⟩
    · intro i hi
      rcases app_at hi with hi | ⟨_, ei⟩
      · have hl : i < st'.length := by rw [← hr'.len]; exact (List.getElem?_eq_some_iff.mp hi).1
        rw [List.getElem?_append_left hl]
        exact hr'.dead i hi
      · cases ei
    · intro q hq
      have hq2 := List.mem_filter.mp hq
      refine ⟨(hr'.prot q hq2.1).1, fun i z => ?_⟩
      rcases app_at z with z | ⟨_, z⟩
      · exact (hr'.prot q hq2.1).2 i z
      · cases z; exact absurd rfl (of_decide_eq_true hq2.2)
    · show (β'.l ++ [some D])[st'.length]? = some (some D)
      rw [← hr'.len]; simp
theorem je_lc {elt tg iter : Expr} {ifs : List Expr} {scope : Scope} {own : List (Str × Nat)} {pos : Pos} {mi : MI} {n : NT} {mt : MT} {me : ME} (hc : X.calm = true) (hN : X.N.Nodup) (hi : JI X Cl E tg iter mi) (ok : BlkOk X.N X.env.scope scope own)
    (hg : ∀ (s : Shared) (H : Hp) (C : Addr) (cl : List (Str × Addr)) (fp : List Addr), JN (X.blk s H scope (compEnvC scope cl C X.env) fp) tg n) (ht : ∀ (s : Shared) (H : Hp) (C : Addr) (cl : List (Str × Addr)) (fp : List Addr), JTs (X.blk s H scope (compEnvC scope cl C X.env) fp) Cl E0 ifs mt)
    (he : ∀ (s : Shared) (H : Hp) (C : Addr) (cl : List (Str × Addr)) (fp : List Addr), JE (X.blk s H scope (compEnvC scope cl C X.env) fp) Cl E0 elt me) (hw : NT.within (own.map (·.2)) n = true := by rfl) (hs : ∀ x, foldedSetIterable iter X.env x = pure x := by intro _; rfl) :
    JE X Cl E (.ListComp elt [⟨tg, iter, ifs, 0⟩] scope pos) (mLc mi n mt me (own.map (·.2))) := by
  obtain ⟨_, p1, q1⟩ := hi.ex
  exact ⟨_, pe_lc hc hN p1 ok (fun s H C cl fp => (hg s H C cl fp).pg) (fun s H C cl fp => (ht s H C cl fp).ex) (fun s H C cl fp => (he s H C cl fp).pe) hs, se_lc hw q1⟩
/-- name = [..] -/
theorem js_setLc (i : Nat) {y : Str} {py : Pos} {elt tg iter : Expr} {ifs : List Expr} {scope : Scope} {own : List (Str × Nat)} {pos spos : Pos} {mi : MI} {n : NT} {mt : MT} {me : ME} (hc : X.calm = true) (hN : X.N.Nodup)
    (hsw : swapsWith (.ListComp elt [⟨tg, iter, ifs, 0⟩] scope pos) (some (.Name y py)) spos.line X.env = pure true) (hi : JI X Cl E tg iter mi) (ok : BlkOk X.N X.env.scope scope own)
    (hg : ∀ (s : Shared) (H : Hp) (C : Addr) (cl : List (Str × Addr)) (fp : List Addr), JN (X.blk s H scope (compEnvC scope cl C X.env) fp) tg n) (ht : ∀ (s : Shared) (H : Hp) (C : Addr) (cl : List (Str × Addr)) (fp : List Addr), JTs (X.blk s H scope (compEnvC scope cl C X.env) fp) Cl E0 ifs mt)
    (he : ∀ (s : Shared) (H : Hp) (C : Addr) (cl : List (Str × Addr)) (fp : List Addr), JE (X.blk s H scope (compEnvC scope cl C X.env) fp) Cl E0 elt me) (hy : X.N[i]? = some y := by rfl) (hyl : X.env.scope.names.lookup y = some .local := by rfl) (hw : NT.within (own.map (·.2)) n = true := by rfl) (hs : ∀ x, foldedSetIterable iter X.env x = pure x := by intro _; rfl) :
    JS X Cl E (.Assign [.Name y py] (.ListComp elt [⟨tg, iter, ifs, 0⟩] scope pos) spos) (mAsg (mLc mi n mt me (own.map (·.2))) (mGN i)) := by
  obtain ⟨_, p1, q1⟩ := hi.ex
  refine ⟨_, ps_setLc hc hN hy hyl hsw p1 ok (fun s H C cl fp => (hg s H C cl fp).pg) (fun s H C cl fp => (ht s H C cl fp).ex) (fun s H C cl fp => (he s H C cl fp).pe) hs, fun β H σ s st D hr hs h => se_lc hw q1 β H σ s st _ hr hs (h.run fun x st1 β1 H1 v _ e1 hr1 rx h1 => PoS.val h1 hr1 ((hs.ext e1).set rx))⟩
theorem je_lcS {elt tg iter : Expr} {ifs : List Expr} {scope : Scope} {own : List (Str × Nat)} {pos : Pos} {mi : MI} {n : NT} {mt : MT} {me : ME} (hc : X.calm = true) (hN : X.N.Nodup) (hi : JI X Cl E tg iter mi) (ok : BlkOk X.N X.env.scope scope own)
    (hg : ∀ (s : Shared) (H : Hp) (C : Addr) (cl : List (Str × Addr)) (fp : List Addr), JN (X.blk s H scope (compEnvC scope cl C X.env) fp) tg n) (ht : ∀ (s : Shared) (H : Hp) (C : Addr) (cl : List (Str × Addr)) (fp : List Addr), JTs (X.blk s H scope (compEnvC scope cl C X.env) fp) Cl E0 ifs mt)
    (he : ∀ (s : Shared) (H : Hp) (C : Addr) (cl : List (Str × Addr)) (fp : List Addr), JE (X.blk s H scope (compEnvC scope cl C X.env) fp) Cl E0 elt me) (hw : NT.within (own.map (·.2)) n = true := by rfl) (hs : ∀ x, foldedSetIterable iter X.env x = pure x := by intro _; rfl) :
    JE X Cl E (.ListComp elt [⟨tg, iter, ifs, 0⟩] scope pos) (mLcS mi n mt me (own.map (·.2))) := by
  obtain ⟨_, p1, q1⟩ := hi.ex
  exact ⟨_, pe_lc hc hN p1 ok (fun s H C cl fp => (hg s H C cl fp).pg) (fun s H C cl fp => (ht s H C cl fp).ex) (fun s H C cl fp => (he s H C cl fp).pe) hs, se_lcS hw q1⟩
theorem js_setLcS (i : Nat) {y : Str} {py : Pos} {elt tg iter : Expr} {ifs : List Expr} {scope : Scope} {own : List (Str × Nat)} {pos spos : Pos} {mi : MI} {n : NT} {mt : MT} {me : ME} (hc : X.calm = true) (hN : X.N.Nodup)
    (hsw : swapsWith (.ListComp elt [⟨tg, iter, ifs, 0⟩] scope pos) (some (.Name y py)) spos.line X.env = pure true) (hi : JI X Cl E tg iter mi) (ok : BlkOk X.N X.env.scope scope own)
    (hg : ∀ (s : Shared) (H : Hp) (C : Addr) (cl : List (Str × Addr)) (fp : List Addr), JN (X.blk s H scope (compEnvC scope cl C X.env) fp) tg n) (ht : ∀ (s : Shared) (H : Hp) (C : Addr) (cl : List (Str × Addr)) (fp : List Addr), JTs (X.blk s H scope (compEnvC scope cl C X.env) fp) Cl E0 ifs mt)
    (he : ∀ (s : Shared) (H : Hp) (C : Addr) (cl : List (Str × Addr)) (fp : List Addr), JE (X.blk s H scope (compEnvC scope cl C X.env) fp) Cl E0 elt me) (hy : X.N[i]? = some y := by rfl) (hyl : X.env.scope.names.lookup y = some .local := by rfl) (hw : NT.within (own.map (·.2)) n = true := by rfl) (hs : ∀ x, foldedSetIterable iter X.env x = pure x := by intro _; rfl) :
    JS X Cl E (.Assign [.Name y py] (.ListComp elt [⟨tg, iter, ifs, 0⟩] scope pos) spos) (mAsg (mLcS mi n mt me (own.map (·.2))) (mGN i)) := by
  obtain ⟨_, p1, q1⟩ := hi.ex
  refine ⟨_, ps_setLc hc hN hy hyl hsw p1 ok (fun s H C cl fp => (hg s H C cl fp).pg) (fun s H C cl fp => (ht s H C cl fp).ex) (fun s H C cl fp => (he s H C cl fp).pe) hs, fun β H σ s st D hr hs h => se_lcS hw q1 β H σ s st _ hr hs (h.run fun x st1 β1 H1 v _ e1 hr1 rx h1 => PoS.val h1 hr1 ((hs.ext e1).set rx))⟩
end

/-! ### defs -/
/-- a def's body run with its arguments; nothing is raised -/
@[simp] def mDef (n k : Nat) (body : MS) : MF := fun ws st => if ws.length = n then match body (ws.map some ++ List.replicate k none) st with
    | .rt w st1 => .ok w st1
    | .nx _ st1 => .ok .non st1
    | _ => .stuck
  else .stuck
/-- .. that may raise -/
@[simp] def mDefX (n k : Nat) (body : MS) : MF := fun ws st => if ws.length = n then match body (ws.map some ++ List.replicate k none) st with
    | .rt w st1 => .ok w st1
    | .nx _ st1 => .ok .non st1
    | .exc c fs st1 => .exc c fs st1
    | _ => .stuck
  else .stuck
def NoX (m : MF) : Prop := ∀ ws st c fs st', m ws st ≠ .exc c fs st'
theorem nox_def {n k : Nat} {body : MS} : NoX (mDef n k body) := fun ws st c fs st' z => by
  unfold mDef at z
  split at z
  · split at z <;> cases z
  · cases z
/-- the promise that a def does what its mirror does -/
def spM (K : PySem.W.Frag) (Cl : Nat → Addr) (n : Nat) (m : MF) : Sp := fun vs H Q E => vs.length = n ∧ ∃ β ws st, HR K Cl β H st ∧ RVs K β H ws vs ∧ Po K Cl E β H Q (m ws st)
section
variable {P : Program} {w : World} {K : PySem.W.Frag} {Cl : Nat → Addr} {mg : Str → Option Value} {base : Heap}
theorem sr_start {β : Bt} {H : Hp} {ws : List W} {vs : List V} {N : List Str} {k : Nat} (r : RVs K β H ws vs) (hk : N.length - vs.length = k) : SR K β H (ws.map some ++ List.replicate k none) (L2.start N vs) := by
  unfold L2.start
  rw [hk]
  refine ⟨by simp [r.length], fun i u hi => ?_⟩
  by_cases hl : i < ws.length
  · rw [List.getElem?_append_left (by simpa using hl), List.getElem?_map] at hi
    cases e : ws[i]? with
    | none => rw [e] at hi; cases hi
    | some x =>
      rw [e] at hi
      cases hi
      obtain ⟨v, hv, rv⟩ := r.get e
      exact ⟨v, by rw [List.getElem?_append_left (by rw [List.length_map, ← r.length]; exact hl), List.getElem?_map, hv] <;> rfl, rv⟩
  · rw [List.getElem?_append_right (by simpa using hl)] at hi
    by_cases h2 : i - (ws.map some).length < k
    · rw [List.getElem?_replicate_of_lt h2] at hi; cases hi
    · rw [List.getElem?_eq_none (by simpa using h2)] at hi; cases hi
theorem fn_ok {x qual : Str} {st : Stmt} {f : Addr} {fd : FuncData} {N ps : List Str} {k n j : Nat} {body : MS} (F : Fun K x qual st f fd) (S : FnScope N ps (defScope st)) (hn : ps.length = n) (hj : N.length - n = j)
    (hb : ∀ (cdv : Value) (A : Around) (outer : List Env) (s : Shared) (H : Hp) (E : XK), Room k (A.deeper (envOfC qual (defScope st) s.heap.objs.size f cdv)) → JSs (cxOf CX0 P w K mg base N qual (defScope st) f cdv A outer s H E).nox Cl E0 (defBody st) body) :
    FnOk P w K mg base CX0 (k + 1) f fd ps (spM K Cl n (mDef n j body)) := by
  refine F.ok S (fun vs H Q E h => h.1.trans hn.symm) (fun cdv A outer s H vs Q E hr h => ?_)
  obtain ⟨hl, β, ws, sto, hR, rv, po⟩ := h
  obtain ⟨t, p, q⟩ := (hb cdv A outer s H E hr).ex
  refine ⟨t, p, q β H _ (ws.map some ++ List.replicate j none) sto _ hR (sr_start rv (by rw [hl]; exact hj)) ?_⟩
  unfold mDef at po
  rw [if_pos (rv.length.trans hl)] at po
  split at po
  · rename_i w1 st1 e
    rw [e]
    exact po
  · rename_i s1 st1 e
    rw [e]
    exact fun β' H' σ' e' hr' hs' => po β' H' .non e' hr' .non
  · exact po.elim
theorem fn_okX {x qual : Str} {st : Stmt} {f : Addr} {fd : FuncData} {N ps : List Str} {k n j : Nat} {body : MS} (F : Fun K x qual st f fd) (S : FnScope N ps (defScope st)) (hn : ps.length = n) (hj : N.length - n = j)
    (hb : ∀ (cdv : Value) (A : Around) (outer : List Env) (s : Shared) (H : Hp) (E : XK), Room k (A.deeper (envOfC qual (defScope st) s.heap.objs.size f cdv)) → JSs (cxOf (L2.CX P w) P w K mg base N qual (defScope st) f cdv A outer s H E) Cl E (defBody st) body) :
    FnOk P w K mg base (L2.CX P w) (k + 1) f fd ps (spM K Cl n (mDefX n j body)) := by
  refine F.okX S (fun vs H Q E h => h.1.trans hn.symm) (fun cdv A outer s H vs Q E hr h => ?_)
  obtain ⟨hl, β, ws, sto, hR, rv, po⟩ := h
  obtain ⟨t, p, q⟩ := (hb cdv A outer s H E hr).ex
  refine ⟨t, p, q β H _ (ws.map some ++ List.replicate j none) sto _ hR (sr_start rv (by rw [hl]; exact hj)) ?_⟩
  unfold mDefX at po
  rw [if_pos (rv.length.trans hl)] at po
  split at po
  · rename_i w1 st1 e
    rw [e]
    exact po
  · rename_i s1 st1 e
    rw [e]
    exact fun β' H' σ' e' hr' hs' => po β' H' .non e' hr' .non
  · rename_i c fs st1 e
    rw [e]
    exact po
  · exact po.elim
end

/-! ### calls -/
@[simp] def mCall (n : Nat) (m : MF) (a : MA) : ME := fun s st => (a s st).bind fun ws st1 => if ws.length = n then m ws st1 else .stuck
@[simp] def mMeth (c : Nat) (nm : Str) (n : Nat) (m : MF) (o : ME) (a : MA) : ME := fun s st => (o s st).bind fun x st1 => match x with
  | .ref i => match st1[i]? with
    | some (.ins d fs) => if d = c ∧ fs.lookup nm = none then (a s st1).bind fun ws st2 => if ws.length + 1 = n then m (x :: ws) st2 else .stuck else .stuck
    | _ => .stuck
  | _ => .stuck
@[simp] def mMake (c n : Nat) (m : MF) (a : MA) : ME := fun s st => (a s st).bind fun ws st1 => if ws.length + 1 = n then (m (.ref st1.length :: ws) (st1 ++ [.ins c []])).bind fun r st2 => match r with
    | .non => match st2[st1.length]? with
      | some (.ins _ _) => .ok (.ref st1.length) st2
      | _ => .stuck
    | _ => .stuck
  else .stuck
section
variable {X : Cx} {Cl : Nat → Addr} {E E1 : XK} {pos p apos : Pos} {ma mo : ME} {mr : MA} {e o : Expr} {es : List Expr} {k n f : Nat} {CX : CXT} {fd : FuncData} {ps : List Str} {m : MF} {x : Str}
/-- what a callee may raise reaches what is wished of exceptions here -/
structure Let (X : Cx) (CX : CXT) (E : XK) (m : MF) (E1 : XK) : Prop where
  ps : Passes CX X E1
  po : ∀ {Cl : Nat → Addr} {β : Bt} {H : Hp} {Q : VK} {ws : List W} {st : Sto}, Po X.K Cl E β H Q (m ws st) → Po X.K Cl E1 β H Q (m ws st)
theorem let0 (h : NoX m) : Let X CX0 E m E0 := ⟨pass0, fun {Cl β H Q ws st} hp => PoW.E0 hp (h ws st)⟩
theorem letX (h : Passes (L2.CX X.prog X.w) X E) : Let X (L2.CX X.prog X.w) E m E := ⟨h, fun h => h⟩
theorem se_call {K : PySem.W.Frag} {ta : TA} (hl : ∀ {β : Bt} {H : Hp} {Q : VK} {ws : List W} {st : Sto}, Po K Cl E β H Q (m ws st) → Po K Cl E1 β H Q (m ws st)) (q : SA K Cl E ta mr) : SE K Cl E (tCall (spM K Cl n m) [] E1 ta) (mCall n m mr) := fun β H σ s st Q hr hs h => q β H σ s st _ hr hs (h.bind fun ws st1 β1 H1 vs _ e1 hr1 rv h1 => by
  split at h1
  · rename_i hn
    rw [List.append_nil]
    exact ⟨by rw [← rv.length]; exact hn, β1, ws, st1, hr1, rv, hl h1⟩
  · exact h1.elim)
theorem je_call (F : FnOk X.prog X.w X.K X.mg X.base CX k f fd ps (spM X.K Cl n m)) (hr : Room k X.A) (hm : X.mg x = some (.ref f)) (hk : PySem.W.keepIn X.K (.ref f) = true) (hb : Binds X.K fd ps []) (hl : Let X CX E m E1) (ha : JA X Cl E (e :: es) mr) (hg : Gl X x := by rfl)
    (hdb : (x == ("__debug__" : Str)) = false := by decide) (he : starEach (e :: es) X.env = (false, eval e X.env) :: starEach es X.env := by rfl) (hpl : (backTo pos (starEach es X.env)).any (·.1) = false := by rfl) : JE X Cl E (.Call (.Name x p) (e :: es) [] pos) (mCall n m mr) := by
  obtain ⟨_, pr, q⟩ := ha.ex
  exact ⟨_, pe_call F hr hg hm hk hb .nil hl.ps pr hdb he hpl, se_call hl.po q⟩
theorem sa_nil {K : PySem.W.Frag} : SA K Cl E tNil mNil := fun β H σ s st Q hr hs h => PoG.val h hr .nil
theorem je_call0 (F : FnOk X.prog X.w X.K X.mg X.base CX k f fd ps (spM X.K Cl n m)) (hr : Room k X.A) (hm : X.mg x = some (.ref f)) (hk : PySem.W.keepIn X.K (.ref f) = true) (hb : Binds X.K fd ps []) (hl : Let X CX E m E1) (hg : Gl X x := by rfl) (hdb : (x == ("__debug__" : Str)) = false := by decide) :
    JE X Cl E (.Call (.Name x p) [] [] pos) (mCall n m mNil) := ⟨_, pe_call0 F hr hg hm hk hb .nil hl.ps hdb, se_call hl.po sa_nil⟩
theorem se_meth {K : PySem.W.Frag} {c : Nat} {nm : Str} {to : TE} {ta : TA} (hl : ∀ {β : Bt} {H : Hp} {Q : VK} {ws : List W} {st : Sto}, Po K Cl E β H Q (m ws st) → Po K Cl E1 β H Q (m ws st)) (qo : SE K Cl E to mo) (q : SA K Cl E ta mr) : SE K Cl E (tMeth (Cl c) nm (spM K Cl n m) [] E1 to ta) (mMeth c nm n m mo mr) := fun β H σ s st Q hr hs h => qo β H σ s st _ hr hs (h.bind fun x st1 β1 H1 v _ e1 hr1 rx h1 => by
  cases x with
  | ref i =>
    simp only at h1
    split at h1
    · rename_i d fs es
      split at h1
      · rename_i hd
        obtain ⟨rfl, hno⟩ := hd
        obtain ⟨a, rfl, hb, dx, gs, hv, hrs⟩ := rx.atRef hr1 es (by intro z; cases z)
        refine ⟨a, dx, gs, rfl, hv, hrs.lookN hno, q β1 H1 σ s st1 _ hr1 (hs.ext e1) (h1.bind fun ws st2 β2 H2 vs _ e2 hr2 rv h2 => ?_)⟩
        split at h2
        · rename_i hn
          rw [List.append_nil]
          exact ⟨by rw [List.length_cons, ← rv.length]; exact hn, β2, _, st2, hr2, .cons (rx.ext e2) rv, hl h2⟩
        · exact h2.elim
      · exact h1.elim
    · exact h1.elim
  | _ => exact h1.elim)
theorem je_meth {c : Nat} {nm : Str} {pl : Sem Bool} (hc : Cls X.K (Cl c)) (hm : Meth X.K (Cl c) nm f) (F : FnOk X.prog X.w X.K X.mg X.base CX k f fd ps (spM X.K Cl n m)) (hr : Room k X.A) (hb : Binds X.K fd ps []) (hl : Let X CX E m E1) (ho : JE X Cl E o mo) (ha : JA X Cl E (e :: es) mr)
    (hst : starEach (e :: es) X.env = (false, eval e X.env) :: starEach es X.env := by rfl) (hpl : (backTo pos (starEach es X.env)).any (·.1) = false := by rfl)
    (ht : eval (.Call (.Attribute o nm apos) (e :: es) [] pos) X.env = (do
      let ov ← eval o X.env
      standAt apos.atName
      let (f, first) ← holding [ov] (getMethod ov nm pl)
      callWith pos f first (backTo pos (starEach (e :: es) X.env)) (backToKw pos (keywordEach [] X.env))) := by rfl) :
    JE X Cl E (.Call (.Attribute o nm apos) (e :: es) [] pos) (mMeth c nm n m mo mr) := by
  obtain ⟨_, po, qo⟩ := ho.ex
  obtain ⟨_, pr, q⟩ := ha.ex
  exact ⟨_, pe_meth po hc hm F hr hb .nil hl.ps pr hst hpl ht, se_meth hl.po qo q⟩
theorem je_meth0 {c : Nat} {nm : Str} {pl : Sem Bool} (hc : Cls X.K (Cl c)) (hm : Meth X.K (Cl c) nm f) (F : FnOk X.prog X.w X.K X.mg X.base CX k f fd ps (spM X.K Cl n m)) (hr : Room k X.A) (hb : Binds X.K fd ps []) (hl : Let X CX E m E1) (ho : JE X Cl E o mo)
    (ht : eval (.Call (.Attribute o nm apos) [] [] pos) X.env = (do
      let ov ← eval o X.env
      standAt apos.atName
      let (f, first) ← holding [ov] (getMethod ov nm pl)
      callWith pos f first (backTo pos (starEach [] X.env)) (backToKw pos (keywordEach [] X.env))) := by rfl) :
    JE X Cl E (.Call (.Attribute o nm apos) [] [] pos) (mMeth c nm n m mo mNil) := by
  obtain ⟨_, po, qo⟩ := ho.ex
  exact ⟨_, pe_meth0 po hc hm F hr hb .nil hl.ps ht, se_meth hl.po qo sa_nil⟩
theorem se_make {K : PySem.W.Frag} {c : Nat} {ta : TA} (hl : ∀ {β : Bt} {H : Hp} {Q : VK} {ws : List W} {st : Sto}, Po K Cl E β H Q (m ws st) → Po K Cl E1 β H Q (m ws st)) (q : SA K Cl E ta mr) : SE K Cl E (tMake (Cl c) (spM K Cl n m) [] E1 ta) (mMake c n m mr) := fun β H σ s st Q hr hs h => q β H σ s st _ hr hs (h.bind fun ws st1 β1 H1 vs _ e1 hr1 rv h1 x dx hx hd hne => by
  split at h1
  · rename_i hn
    rw [List.append_nil]
    have hx2 : upd H1 dx (.own x) x = none := by rw [upd_ne hne.symm]; exact hx
    have ea : Ext K β1 H1 β1 (upd H1 dx (.own x)) := Ext.new hd
    have eb : Ext K β1 (upd H1 dx (.own x)) (β1.push x) (upd (upd H1 dx (.own x)) x (.ins (Cl c) dx [])) := Ext.push hx2
    have hr2 : HR K Cl (β1.push x) (upd (upd H1 dx (.own x)) x (.ins (Cl c) dx [])) (st1 ++ [.ins c []]) := (hr1.new hd).push hx2 ⟨dx, [], upd_same, .nil⟩
    have hb : (β1.push x).l[st1.length]? = some (some x) := by rw [← hr1.len]; exact push_last
    refine ⟨by rw [List.length_cons, ← rv.length]; exact hn, β1.push x, _, _, hr2, .cons (.ref hb) ((rv.ext ea).ext eb), hl ?_⟩
    refine ((PoG.ext (ea.trans eb) h1).bind fun r st2 β2 H2 v eq e2 hr3 rr h2 => ?_)
    split at h2
    · cases rr
      refine ⟨rfl, ?_⟩
      split at h2
      · rename_i es
        exact PoG.val h2 hr3 (.ref (hr3.stay e2 hb es (by intro z; cases z)))
      · exact h2.elim
    · exact h2.elim
  · exact h1.elim)
theorem je_make {c : Nat} (M : Mk X.K (Cl c) f) (F : FnOk X.prog X.w X.K X.mg X.base CX k f fd ps (spM X.K Cl n m)) (hr : Room (k + 1) X.A) (hm : X.mg x = some (.ref (Cl c))) (hb : Binds X.K fd ps []) (hl : Let X CX E m E1) (ha : JA X Cl E (e :: es) mr) (hg : Gl X x := by rfl)
    (hdb : (x == ("__debug__" : Str)) = false := by decide) (he : starEach (e :: es) X.env = (false, eval e X.env) :: starEach es X.env := by rfl) (hpl : (backTo pos (starEach es X.env)).any (·.1) = false := by rfl) : JE X Cl E (.Call (.Name x p) (e :: es) [] pos) (mMake c n m mr) := by
  obtain ⟨_, pr, q⟩ := ha.ex
  exact ⟨_, pe_make M F hr hg hm hb .nil hl.ps pr hdb he hpl, se_make hl.po q⟩
theorem je_make0 {c : Nat} (M : Mk X.K (Cl c) f) (F : FnOk X.prog X.w X.K X.mg X.base CX k f fd ps (spM X.K Cl n m)) (hr : Room (k + 1) X.A) (hm : X.mg x = some (.ref (Cl c))) (hb : Binds X.K fd ps []) (hl : Let X CX E m E1) (hg : Gl X x := by rfl) (hdb : (x == ("__debug__" : Str)) = false := by decide) :
    JE X Cl E (.Call (.Name x p) [] [] pos) (mMake c n m mNil) := ⟨_, pe_make0 M F hr hg hm hb .nil hl.ps hdb, se_make hl.po sa_nil⟩
end

theorem room65 {A : Around} {k : Nat} (hr : Room k A) : A.units + 65 < cLine := by have := hr.un; omega
theorem room1 {A : Around} {k : Nat} (hr : Room k A) : A.units + 1 < cLine := by have := hr.un; omega

/-! ### the law's end -/
def spLaw (K : PySem.W.Frag) (Cl : Nat → Addr) (m : MF) : Sp := spM K Cl 1 m
theorem rv_ints {K : PySem.W.Frag} {β : Bt} {H : Hp} : ∀ ns : List Int, RVs K β H (ns.map W.int) (ns.map V.int)
  | [] => .nil
  | n :: ns => .cons (.int n) (rv_ints ns)
theorem law_sp {K : PySem.W.Frag} {Cl : Nat → Addr} {m : MF} {H : Hp} {a : Addr} {ns : List Int} (hO : Only H) (hS : SqL K H a (ns.map V.int)) (h : ∃ st, m [.xst (ns.map W.int)] [] = .ok (.bl true) st) :
    spLaw K Cl m [.ref a] H (fun v _ => v = .bl true) fun _ _ _ => False := by
  obtain ⟨st, h⟩ := h
  refine ⟨rfl, ⟨[], []⟩, [.xst (ns.map W.int)], [], ⟨rfl, fun i j b hi => by simp at hi, fun i b o hi => by simp at hi, fun i hi => by simp at hi, fun p hp => by simp at hp⟩, .cons (.xst (vs := ns.map V.int) ?_ (rv_ints ns)) .nil, ?_⟩
  · rcases hS with (hS | hS) | hS
    · rcases hO a with z | ⟨o, xs, z⟩
      · rw [hS] at z; cases z
      · rw [hS] at z; cases z
    · exact .inr hS
    · exact .inl hS
  · rw [h]
    intro β' H' v e hr r
    cases r
    rfl
end Mi
/-! The mirror layer, part P: plain rules for the mirrors' loops. -/
namespace Mi
open PySem L2

/-- what a loop's body may come to: go on with `I`, or end as `R` says -/
@[simp] def Step (I : Slo → Sto → Prop) (R : SO → Prop) : SO → Prop
  | .nx s st => I s st
  | .ct s st => I s st
  | .bk s st => R (.nx s st)
  | .rt w st => R (.rt w st)
  | .exc c fs st => R (.exc c fs st)
  | .stuck => False
theorem loop_vals_at {ws : List W} {g : MG} {body : MS} (I : Nat → Slo → Sto → Prop) (R : SO → Prop)
    (step : ∀ i w s st, ws[i]? = some w → I i s st → ∃ s1 st1, g w s st = some (s1, st1) ∧ Step (I (i + 1)) R (body s1 st1))
    (fin : ∀ s st, I ws.length s st → R (.nx s st)) :
    ∀ (k i : Nat) (s : Slo) (st : Sto), i + k = ws.length → I i s st → R (mLoop (.vals ws) g body k i s st)
  | 0, i, s, st, e, h => by
    have e' : i = ws.length := by omega
    subst e'
    simp only [mLoop, Src.fine, if_true]
    exact fin s st h
  | k + 1, i, s, st, e, h => by
    have hi : i < ws.length := by omega
    obtain ⟨s1, st1, hg, hb⟩ := step i ws[i] s st (List.getElem?_eq_getElem hi) h
    have ih := loop_vals_at I R step fin k (i + 1)
    simp only [mLoop, Src.fine, if_true, Src.at, List.getElem?_eq_getElem hi, hg]
    cases hc : body s1 st1 with
    | nx s2 st2 => rw [hc] at hb; exact ih s2 st2 (by omega) hb
    | ct s2 st2 => rw [hc] at hb; exact ih s2 st2 (by omega) hb
    | bk s2 st2 => rw [hc] at hb; exact hb
    | rt w2 st2 => rw [hc] at hb; exact hb
    | exc c fs st2 => rw [hc] at hb; exact hb
    | stuck => rw [hc] at hb; exact hb.elim
theorem loop_vals {ws : List W} {g : MG} {body : MS} (I : Nat → Slo → Sto → Prop) (R : SO → Prop) {s : Slo} {st : Sto} (h0 : I 0 s st)
    (step : ∀ i w s st, ws[i]? = some w → I i s st → ∃ s1 st1, g w s st = some (s1, st1) ∧ Step (I (i + 1)) R (body s1 st1))
    (fin : ∀ s st, I ws.length s st → R (.nx s st)) :
    R (mLoop (.vals ws) g body ws.length 0 s st) := loop_vals_at I R step fin _ 0 s st (by omega) h0
/-- as an equation's left side: the loop ends well, and `I` holds there -/
theorem loop_nx {ws : List W} {g : MG} {body : MS} {n : Nat} (hn : ws.length = n) (I : Nat → Slo → Sto → Prop) {s : Slo} {st : Sto} (h0 : I 0 s st)
    (step : ∀ i w s st, ws[i]? = some w → I i s st → ∃ s1 st1, g w s st = some (s1, st1) ∧ ∃ s2 st2, (body s1 st1 = .nx s2 st2 ∨ body s1 st1 = .ct s2 st2) ∧ I (i + 1) s2 st2) :
    ∃ s2 st2, mLoop (.vals ws) g body n 0 s st = .nx s2 st2 ∧ I n s2 st2 := by
  subst hn
  refine loop_vals (R := fun o => ∃ s2 st2, o = .nx s2 st2 ∧ I ws.length s2 st2) I h0 (fun i w s st hw hi => ?_) (fun s st h => ⟨s, st, rfl, h⟩)
  obtain ⟨s1, st1, hg, s2, st2, hb, h2⟩ := step i w s st hw hi
  refine ⟨s1, st1, hg, ?_⟩
  rcases hb with hb | hb <;> rw [hb] <;> exact h2
theorem loop_st {ws : List W} {g : MG} {body : MS} {n : Nat} (hn : ws.length = n) (I : Nat → Slo → Sto → Prop) {s : Slo} {st : Sto} (h0 : I 0 s st)
    (step : ∀ i w s st, ws[i]? = some w → I i s st → ∃ s1 st1, g w s st = some (s1, st1) ∧ Step (I (i + 1)) (fun _ => False) (body s1 st1)) :
    ∃ s2 st2, mLoop (.vals ws) g body n 0 s st = .nx s2 st2 ∧ I n s2 st2 := by
  refine loop_nx hn I h0 fun i w s st hw hi => ?_
  obtain ⟨s1, st1, hg, hb⟩ := step i w s st hw hi
  refine ⟨s1, st1, hg, ?_⟩
  cases hc : body s1 st1 with
  | nx s2 st2 => rw [hc] at hb; exact ⟨s2, st2, .inl rfl, hb⟩
  | ct s2 st2 => rw [hc] at hb; exact ⟨s2, st2, .inr rfl, hb⟩
  | bk s2 st2 => rw [hc] at hb; exact hb.elim
  | rt w2 st2 => rw [hc] at hb; exact hb.elim
  | exc c fs st2 => rw [hc] at hb; exact hb.elim
  | stuck => rw [hc] at hb; exact hb.elim
@[simp] theorem Src.len_vals (ws : List W) : (Src.vals ws).len = ws.length := rfl
@[simp] theorem rngW_len (lo : Int) (n : Nat) : (rngW lo n).length = n := by simp [rngW]
theorem rngW_get {lo : Int} {n i : Nat} {w : W} (h : (rngW lo n)[i]? = some w) : i < n ∧ w = .int (lo + (i : Nat)) := by
  simp only [rngW, List.getElem?_map] at h
  rcases Nat.lt_or_ge i n with hi | hi
  · rw [List.getElem?_range hi] at h
    simp at h
    exact ⟨hi, h.symm⟩
  · rw [List.getElem?_eq_none (by simpa using hi)] at h
    simp at h
theorem rng0_get {n i : Nat} {w : W} (h : (rngW 0 n)[i]? = some w) : i < n ∧ w = .int (i : Nat) := by
  have h1 := rngW_get h
  rwa [Int.zero_add] at h1
/-- a walk that changes no store -/
theorem lc_vals_at {ws : List W} {g : MG} {t : MT} {e : ME} {s : Slo} {st : Sto} (p : W → Bool) (q : W → W)
    (h : ∀ w ∈ ws, ∃ s2, g w s st = some (s2, st) ∧ t s2 st = .ok (p w) st ∧ (p w = true → e s2 st = .ok (q w) st)) :
    ∀ (k i : Nat) (acc : List W), i + k = ws.length → acc.length + k ≤ sizeLine →
      mLcLoop (.vals ws) g t e s k i acc st = .ok (acc ++ ((ws.drop i).filter p).map q) st
  | 0, i, acc, e, hl => by
    have e' : i = ws.length := by omega
    subst e'
    simp [mLcLoop, Src.fine]
  | k + 1, i, acc, e, hl => by
    have hi : i < ws.length := by omega
    obtain ⟨s2, hg, ht, he⟩ := h ws[i] (List.getElem_mem hi)
    have hd := List.drop_eq_getElem_cons hi
    simp only [mLcLoop, Src.fine, if_true, Src.at, List.getElem?_eq_getElem hi, hg, ht]
    cases hp : p ws[i] with
    | true =>
      simp only [he hp]
      rw [if_pos (by omega), lc_vals_at p q h k (i + 1) _ (by omega) (by simp; omega)]
      rw [hd, List.filter_cons, hp]
      simp only [if_true, List.map_cons, List.append_assoc, List.singleton_append]
    | false =>
      simp only []
      rw [lc_vals_at p q h k (i + 1) _ (by omega) (by omega), hd, List.filter_cons, hp]
      simp only [Bool.false_eq_true, if_false]
theorem lc_vals {ws : List W} {g : MG} {t : MT} {e : ME} {s : Slo} {st : Sto} (p : W → Bool) (q : W → W) (hl : ws.length ≤ sizeLine)
    (h : ∀ w ∈ ws, ∃ s2, g w s st = some (s2, st) ∧ t s2 st = .ok (p w) st ∧ (p w = true → e s2 st = .ok (q w) st)) :
    mLcLoop (.vals ws) g t e s ws.length 0 [] st = .ok ((ws.filter p).map q) st := by
  rw [lc_vals_at p q h _ 0 [] (by omega) (by simpa using hl)]
  simp
/-- a call's good end -/
@[simp] def Out.post {α : Type} (o : Out α) (P : α → Sto → Prop) : Prop := match o with
  | .ok a st => P a st
  | _ => False
theorem Out.post.get {α : Type} {o : Out α} {P : α → Sto → Prop} (h : o.post P) : ∃ a st, o = .ok a st ∧ P a st := by
  cases o with
  | ok a st => exact ⟨a, st, rfl, h⟩
  | exc c fs st => exact h.elim
  | stuck => exact h.elim
theorem atI_nn {α : Type} {xs : List α} {k : Int} {w : α} (h0 : 0 ≤ k) (h : xs[k.toNat]? = some w) : atI xs k = some w := by
  have hl : k.toNat < xs.length := (List.getElem?_eq_some_iff.mp h).1
  have h2 : ixN xs.length k = some k.toNat := by
    simp only [ixN, if_pos h0]
    rw [if_pos (by omega)]
  rw [atI, h2]
  exact h
@[simp] theorem shaped_int (i : Int) : SeqAt.shaped (.int i) = true := rfl
@[simp] theorem shaped_str (x : Str) : SeqAt.shaped (.str x) = PyData.strOk x := by simp [SeqAt.shaped, PyData.canLay0, PyData.depth]
@[simp] theorem shaped_bool (x : Bool) : SeqAt.shaped (.bool x) = true := rfl
@[simp] theorem shaped_none : SeqAt.shaped .none = true := rfl
@[simp] theorem eqv_ii (i j : Int) : PyData.eqv (.int i) (.int j) = decide (i = j) := by by_cases h : i = j <;> simp [PyData.eqv, h]
@[simp] theorem eqv_ss (i j : Str) : PyData.eqv (.str i) (.str j) = decide (i = j) := by by_cases h : i = j <;> simp [PyData.eqv, h]
@[simp] theorem eqv_bb (i j : Bool) : PyData.eqv (.bool i) (.bool j) = decide (i = j) := by by_cases h : i = j <;> simp [PyData.eqv, h]
@[simp] theorem eqv_nn : PyData.eqv .none .none = true := by simp [PyData.eqv]
@[simp] theorem eqv_is (i : Int) (j : Str) : PyData.eqv (.int i) (.str j) = false := by simp [PyData.eqv]
@[simp] theorem eqv_si (i : Int) (j : Str) : PyData.eqv (.str j) (.int i) = false := by simp [PyData.eqv]
@[simp] theorem eqv_in (i : Int) : PyData.eqv (.int i) .none = false := by simp [PyData.eqv]
@[simp] theorem eqv_ni (i : Int) : PyData.eqv .none (.int i) = false := by simp [PyData.eqv]
@[simp] theorem eqv_sn (i : Str) : PyData.eqv (.str i) .none = false := by simp [PyData.eqv]
@[simp] theorem eqv_ns (i : Str) : PyData.eqv .none (.str i) = false := by simp [PyData.eqv]
@[simp] theorem shaped_list (ds : List PyData) : SeqAt.shaped (.list ds) = (PyData.canLayAll0 ds && decide (PyData.depthAll ds + 1 ≤ 64)) := by simp [SeqAt.shaped, PyData.canLay0, PyData.depth]
@[simp] theorem shaped_tuple (ds : List PyData) : SeqAt.shaped (.tuple ds) = (PyData.canLayAll0 ds && decide (PyData.depthAll ds + 1 ≤ 64)) := by simp [SeqAt.shaped, PyData.canLay0, PyData.depth]
@[simp] theorem lay_nil : PyData.canLayAll0 [] = true := by simp [PyData.canLayAll0]
@[simp] theorem lay_cons (d : PyData) (ds : List PyData) : PyData.canLayAll0 (d :: ds) = (d.canLay0 && PyData.canLayAll0 ds) := by simp [PyData.canLayAll0]
@[simp] theorem lay_int (i : Int) : PyData.canLay0 (.int i) = true := by simp [PyData.canLay0]
@[simp] theorem lay_str (i : Str) : PyData.canLay0 (.str i) = PyData.strOk i := by simp [PyData.canLay0]
@[simp] theorem lay_bool (i : Bool) : PyData.canLay0 (.bool i) = true := by simp [PyData.canLay0]
@[simp] theorem lay_none : PyData.canLay0 .none = true := by simp [PyData.canLay0]
@[simp] theorem lay_tuple (ds : List PyData) : PyData.canLay0 (.tuple ds) = PyData.canLayAll0 ds := by simp [PyData.canLay0]
@[simp] theorem lay_list (ds : List PyData) : PyData.canLay0 (.list ds) = PyData.canLayAll0 ds := by simp [PyData.canLay0]
@[simp] theorem dep_nil : PyData.depthAll [] = 0 := by simp [PyData.depthAll]
@[simp] theorem dep_cons (d : PyData) (ds : List PyData) : PyData.depthAll (d :: ds) = max d.depth (PyData.depthAll ds) := by simp [PyData.depthAll]
@[simp] theorem dep_int (i : Int) : PyData.depth (.int i) = 0 := by simp [PyData.depth]
@[simp] theorem dep_str (i : Str) : PyData.depth (.str i) = 0 := by simp [PyData.depth]
@[simp] theorem dep_bool (i : Bool) : PyData.depth (.bool i) = 0 := by simp [PyData.depth]
@[simp] theorem dep_none : PyData.depth .none = 0 := by simp [PyData.depth]
@[simp] theorem dep_tuple (ds : List PyData) : PyData.depth (.tuple ds) = PyData.depthAll ds + 1 := by simp [PyData.depth]
@[simp] theorem dep_list (ds : List PyData) : PyData.depth (.list ds) = PyData.depthAll ds + 1 := by simp [PyData.depth]
@[simp] theorem eqv_ll (i j : List PyData) : PyData.eqv (.list i) (.list j) = PyData.eqvAll i j := by simp [PyData.eqv]
@[simp] theorem eqv_tt (i j : List PyData) : PyData.eqv (.tuple i) (.tuple j) = PyData.eqvAll i j := by simp [PyData.eqv]
@[simp] theorem eqvA_nn : PyData.eqvAll [] [] = true := by simp [PyData.eqvAll]
@[simp] theorem eqvA_cc (x y : PyData) (xs ys : List PyData) : PyData.eqvAll (x :: xs) (y :: ys) = (PyData.eqv x y && PyData.eqvAll xs ys) := by simp [PyData.eqvAll]
@[simp] theorem eqvA_nc (y : PyData) (ys : List PyData) : PyData.eqvAll [] (y :: ys) = false := by simp [PyData.eqvAll]
@[simp] theorem eqvA_cn (y : PyData) (ys : List PyData) : PyData.eqvAll (y :: ys) [] = false := by simp [PyData.eqvAll]
@[simp] theorem kit_NoneType_bool : kitB "NoneType" "bool" = some false := rfl
@[simp] theorem kit_NoneType_int : kitB "NoneType" "int" = some false := rfl
@[simp] theorem kit_NoneType_str : kitB "NoneType" "str" = some false := rfl
@[simp] theorem kit_NoneType_tuple : kitB "NoneType" "tuple" = some false := rfl
@[simp] theorem kit_NoneType_list : kitB "NoneType" "list" = some false := rfl
@[simp] theorem kit_NoneType_dict : kitB "NoneType" "dict" = some false := rfl
@[simp] theorem kit_bool_bool : kitB "bool" "bool" = some true := rfl
@[simp] theorem kit_bool_int : kitB "bool" "int" = some true := rfl
@[simp] theorem kit_bool_str : kitB "bool" "str" = some false := rfl
@[simp] theorem kit_bool_tuple : kitB "bool" "tuple" = some false := rfl
@[simp] theorem kit_bool_list : kitB "bool" "list" = some false := rfl
@[simp] theorem kit_bool_dict : kitB "bool" "dict" = some false := rfl
@[simp] theorem kit_int_bool : kitB "int" "bool" = some false := rfl
@[simp] theorem kit_int_int : kitB "int" "int" = some true := rfl
@[simp] theorem kit_int_str : kitB "int" "str" = some false := rfl
@[simp] theorem kit_int_tuple : kitB "int" "tuple" = some false := rfl
@[simp] theorem kit_int_list : kitB "int" "list" = some false := rfl
@[simp] theorem kit_int_dict : kitB "int" "dict" = some false := rfl
@[simp] theorem kit_str_bool : kitB "str" "bool" = some false := rfl
@[simp] theorem kit_str_int : kitB "str" "int" = some false := rfl
@[simp] theorem kit_str_str : kitB "str" "str" = some true := rfl
@[simp] theorem kit_str_tuple : kitB "str" "tuple" = some false := rfl
@[simp] theorem kit_str_list : kitB "str" "list" = some false := rfl
@[simp] theorem kit_str_dict : kitB "str" "dict" = some false := rfl
@[simp] theorem kit_tuple_bool : kitB "tuple" "bool" = some false := rfl
@[simp] theorem kit_tuple_int : kitB "tuple" "int" = some false := rfl
@[simp] theorem kit_tuple_str : kitB "tuple" "str" = some false := rfl
@[simp] theorem kit_tuple_tuple : kitB "tuple" "tuple" = some true := rfl
@[simp] theorem kit_tuple_list : kitB "tuple" "list" = some false := rfl
@[simp] theorem kit_tuple_dict : kitB "tuple" "dict" = some false := rfl
@[simp] theorem kit_list_bool : kitB "list" "bool" = some false := rfl
@[simp] theorem kit_list_int : kitB "list" "int" = some false := rfl
@[simp] theorem kit_list_str : kitB "list" "str" = some false := rfl
@[simp] theorem kit_list_tuple : kitB "list" "tuple" = some false := rfl
@[simp] theorem kit_list_list : kitB "list" "list" = some true := rfl
@[simp] theorem kit_list_dict : kitB "list" "dict" = some false := rfl
@[simp] theorem kit_dict_bool : kitB "dict" "bool" = some false := rfl
@[simp] theorem kit_dict_int : kitB "dict" "int" = some false := rfl
@[simp] theorem kit_dict_str : kitB "dict" "str" = some false := rfl
@[simp] theorem kit_dict_tuple : kitB "dict" "tuple" = some false := rfl
@[simp] theorem kit_dict_list : kitB "dict" "list" = some false := rfl
@[simp] theorem kit_dict_dict : kitB "dict" "dict" = some true := rfl
@[simp] theorem ofString_iff (a b : String) : Str.ofString a = Str.ofString b ↔ a = b := by
  constructor
  · intro h
    rw [Str.ofString_eq_toList, Str.ofString_eq_toList, Str.mk.injEq] at h
    have h1 : a.toList.map Char.toNat = b.toList.map Char.toNat := by simpa using h
    have h2 : a.toList = b.toList := List.map_inj_right (fun x y e => Char.toNat_inj.mp e) |>.mp h1
    exact String.toList_inj.mp h2
  · exact congrArg _
@[simp] theorem strOk_lit (a : String) : PyData.strOk (Str.ofString a) = true := by
  rw [Str.ofString_eq_toList]
  simp only [PyData.strOk]
  rw [Array.all_eq_true_iff_forall_mem]
  intro c hc
  simp at hc
  obtain ⟨x, hx, rfl⟩ := hc
  have h : x.val.toNat.isValidChar := x.valid
  have e : x.toNat = x.val.toNat := rfl
  rcases h with h | h
  · simp only [e, decide_eq_true_eq]; omega
  · simp only [e, decide_eq_true_eq]; omega
@[simp] theorem length_lit (a : String) : (Str.ofString a).length = a.length := by
  rw [Str.ofString_eq_toList]
  simp [Str.length, ← String.length_toList]
@[simp] theorem eqV_ss (i j : Str) : eqV (.str i) (.str j) = decide (i = j) := by by_cases h : i = j <;> simp [eqV, h]
@[simp] theorem eqV_ii (i j : Int) : eqV (.int i) (.int j) = decide (i = j) := by by_cases h : i = j <;> simp [eqV, h]
@[simp] theorem eqV_si (i : Str) (j : Int) : eqV (.str i) (.int j) = false := rfl
@[simp] theorem eqV_is (i : Str) (j : Int) : eqV (.int j) (.str i) = false := rfl
@[simp] theorem eqV_sn (i : Str) : eqV (.str i) .non = false := rfl
@[simp] theorem eqV_ns (i : Str) : eqV .non (.str i) = false := rfl
@[simp] theorem eqV_in (i : Int) : eqV (.int i) .non = false := rfl
@[simp] theorem eqV_ni (i : Int) : eqV .non (.int i) = false := rfl
@[simp] theorem eqV_nn : eqV .non .non = true := rfl
@[simp] theorem inV_nil (x : V) : inV x [] = false := rfl
@[simp] theorem inV_cons (x y : V) (ys : List V) : inV x (y :: ys) = (eqV y x || inV x ys) := rfl
@[simp] theorem toPys_ints : ∀ ns : List Int, toPys (ns.map W.int) = some (ns.map PyData.int)
  | [] => rfl
  | n :: ns => by simp [toPys, toPys_ints ns]
end Mi
/-! The mirror layer, part G: lists made into objects of the store, the methods of lists and tuples. -/
namespace Mi
open PySem L2
@[simp] def mListOfS : List W → Sto → Out W := fun xs st => match xs with
  | [.tup ws] => .ok (.ref st.length) (st ++ [.lst ws])
  | [x] => match asL x st with
    | some ws => .ok (.ref st.length) (st ++ [.lst ws])
    | none => .stuck
  | _ => .stuck
@[simp] def mAddS : M2 := fun x y st => match asLM x st, asLM y st with
  | some a, some b => if a.length + b.length ≤ sizeLine then .ok (.ref st.length) (st ++ [.lst (a ++ b)]) else .stuck
  | _, _ => .stuck
@[simp] def mLM (m : W → List W → Sto → Out W) (o : ME) (a : MA) : ME := fun s st => (o s st).bind fun x st1 => match asL x st1 with
  | some _ => (a s st1).bind fun xs st2 => m x xs st2
  | none => .stuck
def SMt (K : PySem.W.Frag) (Cl : Nat → Addr) (E : XK) (r : V → List V → Hp → VK → Prop) (m : W → List W → Sto → Out W) : Prop :=
  ∀ β H st x xs v vs Q, HR K Cl β H st → RV K β H x v → RVs K β H xs vs → Po K Cl E β H Q (m x xs st) → r v vs H Q
@[simp] def mApp : W → List W → Sto → Out W := fun x xs st => match x, xs with
  | .ref i, [y] => match st[i]? with
    | some (.lst ws) => if ws.length < sizeLine then .ok .non (st.set i (.lst (ws ++ [y]))) else .stuck
    | _ => .stuck
  | _, _ => .stuck
@[simp] def mIndex : W → List W → Sto → Out W := fun x xs st => match xs with
  | [y] => match asL x st with
    | some ws => if flatW y = true ∧ ws.all flatW = true then match ws.findIdx? (fun z => eqV (toV z) (toV y)) with
        | some j => .ok (.int (j : Nat)) st
        | none => .stuck
      else .stuck
    | none => .stuck
  | _ => .stuck
@[simp] def mTix (zs : List Str) (a : ME) : ME := fun s st => (a s st).bind fun y st1 => match y with
  | .str z => match zs.findIdx? (fun x => decide (x = z)) with
    | some j => .ok (.int (j : Nat)) st1
    | none => .stuck
  | _ => .stuck
/-- a tuple of texts of the module's top -/
structure GTp (K : PySem.W.Frag) (mg : Str → Option Value) (x : Str) (zs : List Str) : Prop where
  ex : ∃ (p : Addr) (o : Obj) (its : Array Value) (n : Nat), mg x = some (.ref p) ∧ K.lookup p = some o ∧ o.cls = .type "tuple" ∧ o.dict = none ∧ o.data = .seq its n ∧ its.size ≤ sizeLine ∧ Vals (zs.map V.str) its.toList
section
variable {X : Cx} {Cl : Nat → Addr} {E : XK}
theorem c_listS : CallR X (.type "list") (fun xs H Q => ∃ p ys, xs = [.ref p] ∧ (SqL X.K H p ys ∨ SqT X.K H p ys) ∧ ∀ l, H l = none → Q (.ref l) (upd H l (.lst ys))) ∧
    SCal X.K Cl E (fun xs H Q => ∃ p ys, xs = [.ref p] ∧ (SqL X.K H p ys ∨ SqT X.K H p ys) ∧ ∀ l, H l = none → Q (.ref l) (upd H l (.lst ys))) mListOfS := by
  refine ⟨call_list_of, fun β H st xs vs Q hr r h => ?_⟩
  unfold mListOfS at h
  split at h
  · obtain ⟨v, rfl, rv⟩ := r.one
    cases rv with
    | tup h1 r1 => exact ⟨_, _, rfl, .inr h1, fun l hl => Po.lstS h hr hl r1⟩
  · split at h
    · rename_i ws el
      obtain ⟨v, rfl, rv⟩ := r.one
      obtain ⟨p, vs, rfl, h1, r1⟩ := asL_ok hr rv el
      exact ⟨_, _, rfl, .inl h1, fun l hl => Po.lstS h hr hl r1⟩
    · exact h.elim
  · exact h.elim
theorem o_addS : OpR X (binaryOp .Add) rCat ∧ SOp X.K Cl E rCat mAddS := by
  refine ⟨op_cat, fun β H st x y v u Q hr rx ry h => ?_⟩
  unfold mAddS at h
  split at h
  · split at h
    · rename_i e1 e2 hz
      obtain ⟨p, vs, rfl, h1, r1⟩ := asLM_ok hr rx e1
      obtain ⟨q, us, rfl, h2, r2⟩ := asLM_ok hr ry e2
      exact ⟨p, q, vs, us, rfl, rfl, h1, h2, by rw [← r1.length, ← r2.length]; exact hz, fun l hl => Po.lstS h hr hl (r1.append r2)⟩
    · exact h.elim
  · exact h.elim
theorem m_app : MtR X "list.append" rAppend ∧ SMt X.K Cl E rAppend mApp := by
  refine ⟨mt_append, fun β H st x xs v vs Q hr rx rs h => ?_⟩
  unfold mApp at h
  split at h
  · split at h
    · rename_i ws es
      split at h
      · rename_i hz
        obtain ⟨a, rfl, hb, us, hv, hrs⟩ := rx.atRef hr es (by intro z; cases z)
        obtain ⟨u, rfl, ru⟩ := rs.one
        have em : Ext X.K β H β (upd H a (.lst (us ++ [u]))) := Ext.mut hr hb hv trivial
        refine ⟨a, us, u, rfl, rfl, hv, by rw [← hrs.length]; exact hz, h β _ .non em (hr.mut hb hv trivial ⟨_, upd_same, (hrs.append (.cons ru .nil)).ext em⟩) .non⟩
      · exact h.elim
    · exact h.elim
  · exact h.elim
theorem m_index : MtR X "list.index" (rIndex X.K) ∧ SMt X.K Cl E (rIndex X.K) mIndex := by
  refine ⟨mt_index, fun β H st x xs v vs Q hr rx rs h => ?_⟩
  unfold mIndex at h
  split at h
  · split at h
    · rename_i ws el
      split at h
      · rename_i hf
        split at h
        · rename_i j hj
          obtain ⟨u, rfl, ru⟩ := rs.one
          obtain ⟨p, us, rfl, h1, r1⟩ := asL_ok hr rx el
          obtain ⟨rfl, fu⟩ := flat_v ru hf.1
          obtain ⟨rfl, fus⟩ := flat_vs r1 hf.2
          obtain ⟨hl, he, hn⟩ := List.findIdx?_eq_some_iff_getElem.mp hj
          refine ⟨p, _, _, j, toV ws[j], rfl, rfl, h1, fu, fus, by simp [hl], he, fun m z hm hz => ?_, PoG.val h hr (.int _)⟩
          rw [List.getElem?_map, List.getElem?_eq_getElem (by omega)] at hz
          cases hz
          have := hn m hm
          simpa using this
        · exact h.elim
      · exact h.elim
    · exact h.elim
  · exact h.elim
theorem je_lm {o e : Expr} {es : List Expr} {name : Str} {id : String} {apos cpos : Pos} {r : V → List V → Hp → VK → Prop} {m : W → List W → Sto → Out W} {mo : ME} {mr : MA} (slot : Slot "list" name id) (hty : typeOf (.builtin id) = pure (.type "method_descriptor")) (hm : MtR X id r ∧ SMt X.K Cl E r m)
    (ho : JE X Cl E o mo) (ha : JA X Cl E (e :: es) mr)
    (hbase : attributeBase o name X.env (eval o X.env) = eval o X.env := by rfl)
    (hfew : ((backTo cpos (starEach (e :: es) X.env)).all (fun x => !x.1) && (backToKw cpos (keywordEach [] X.env)).all (fun x => x.1.isSome) && decide ((e :: es).length + ([] : List Keyword).length + (if ([] : List Keyword).isEmpty then 0 else 1) < 30)) = true := by rfl)
    (hline : (apos.endLine == cpos.line) = true := by rfl) (hs : starEach (e :: es) X.env = (false, eval e X.env) :: starEach es X.env := by rfl) (hplain : (backTo cpos (starEach es X.env)).any (·.1) = false := by rfl) :
    JE X Cl E (.Call (.Attribute o name apos) (e :: es) [] cpos) (mLM m mo mr) := by
  obtain ⟨_, p1, q1⟩ := ho.ex
  obtain ⟨_, p2, q2⟩ := ha.ex
  refine ⟨_, pe_bm F.plainAttrs_list slot hty hm.1 p1 p2 hbase hfew hline hs hplain, fun β H σ s st Q hr hs h => q1 β H σ s st _ hr hs (h.bind fun x st1 β1 H1 v _ e1 hr1 rx h1 => ?_)⟩
  split at h1
  · rename_i ws el
    obtain ⟨p, us, rfl, h2, r1⟩ := asL_ok hr1 rx el
    exact ⟨.inl ⟨rfl, _, h2⟩, q2 β1 H1 σ s st1 _ hr1 (hs.ext e1) (h1.bind fun xs st2 β2 H2 vs _ e2 hr2 rs h3 => hm.2 β2 H2 st2 x xs _ vs Q hr2 (rx.ext e2) rs h3)⟩
  · exact h1.elim
/-- T.index(e), T a tuple of texts of the module's top -/
theorem je_tix {x : Str} {zs : List Str} {e : Expr} {p apos cpos : Pos} {ma : ME} (g : GTp X.K X.mg x zs) (ha : JE X Cl E e ma) (hg : Gl X x := by rfl) (hd : (x == ("__debug__" : Str)) = false := by decide)
    (hbase : attributeBase (.Name x p) "index" X.env (eval (.Name x p) X.env) = eval (.Name x p) X.env := by rfl)
    (hfew : ((backTo cpos (starEach [e] X.env)).all (fun x => !x.1) && (backToKw cpos (keywordEach [] X.env)).all (fun x => x.1.isSome) && decide ([e].length + ([] : List Keyword).length + (if ([] : List Keyword).isEmpty then 0 else 1) < 30)) = true := by rfl)
    (hline : (apos.endLine == cpos.line) = true := by rfl) (hs : starEach [e] X.env = (false, eval e X.env) :: starEach [] X.env := by rfl) (hplain : (backTo cpos (starEach [] X.env)).any (·.1) = false := by rfl) :
    JE X Cl E (.Call (.Attribute (.Name x p) "index" apos) [e] [] cpos) (mTix zs ma) := by
  obtain ⟨_, p1, q1⟩ := ha.ex
  obtain ⟨a, o, its, n, hm, hk, hc, hdd, hdt, hz, hv⟩ := g.ex
  refine ⟨_, pe_bm F.plainAttrs_tuple F.slot_tuple_index F.type_tuple_index mt_tup_index (pe_glob (v := .ref a) hg hm rfl hd) (pa_cons p1 pa_nil hs) hbase hfew hline hs hplain, fun β H σ s st Q hr hs h => ?_⟩
  refine ⟨.inr (.inl ⟨rfl, o, hk, hc, hdd⟩), q1 β H σ s st _ hr hs (h.bind fun y st1 β1 H1 v _ e1 hr1 ry h1 => ?_)⟩
  cases y with
  | str z =>
    simp only at h1
    split at h1
    · rename_i j hj
      cases ry
      obtain ⟨hl, he, hn⟩ := List.findIdx?_eq_some_iff_getElem.mp hj
      refine ⟨a, zs, z, j, rfl, rfl, .inr ⟨o, its, n, hk, hc, hdt, hz, hv⟩, ?_, fun m hm2 hz2 => ?_, PoG.val h1 hr1 (.int _)⟩
      · rw [List.getElem?_eq_getElem hl]
        simpa using he
      · obtain ⟨hl2, e2⟩ := List.getElem?_eq_some_iff.mp hz2
        have := hn m hm2
        rw [e2] at this
        simp at this
    · exact h1.elim
  | _ => exact h1.elim
/-- o.f as a target -/
def gFld (K : PySem.W.Frag) (to : TE) (f : Str) : TG := fun y σ H Q => to σ H fun x H2 => ∃ a C dx fs, x = .ref a ∧ H2 a = some (.ins C dx fs) ∧ Cls K C ∧ NoAttr K C f ∧ fs.length < 1000 ∧ Q σ (upd H2 a (.ins C dx (putF f y fs)))
theorem pg_fld {o : Expr} {to : TE} {f : Str} {pos : Pos} (ho : PE X o to)
    : PG X (.Attribute o f pos) (gFld X.K to f) := by
  refine ⟨fun pins s σ H v u Q I r h => ?_⟩
  rw [assign_Attribute]
  refine wpAny_bind (wpAny_holding (thn (ho.run pins s σ H _ I h) fun ov s1 ⟨x, H1, I1, r1, a, C, dx, fs, ex, ea, c, n, l, q1⟩ => ?_))
  subst ex
  obtain rfl : ov = Value.ref a := r1
  refine wpAny_bind (wpAny_standAt (wpAny_bind (wpAny_holding ?_)))
  exact setattr_ok I1 ea c n l r fun s3 I3 => wpAny_release ⟨σ, _, I3, q1⟩
theorem jg_fld {o : Expr} {ma : ME} {c : Nat} {f : Str} {pos : Pos} (hc : Cls X.K (Cl c)) (hn : NoAttr X.K (Cl c) f) (ho : JE X Cl E o ma) : JG X Cl (.Attribute o f pos) (mGFld c f ma) := by
  obtain ⟨_, p1, q1⟩ := ho.ex
  refine ⟨_, pg_fld p1, fun β H σ s st w v Q hr hs rw h => q1 β H σ s st _ hr hs ?_⟩
  unfold mGFld at h
  cases e1 : ma s st with
  | exc c fs x => rw [e1] at h; exact h.elim
  | stuck => rw [e1] at h; exact h.elim
  | ok x st1 =>
    rw [e1] at h
    intro β1 H1 v1 x1 hr1 rx
    simp only at h
    split at h
    · rename_i r
      split at h
      · rename_i d fs es
        split at h
        · rename_i hd
          obtain ⟨rfl, hl⟩ := hd
          obtain ⟨a, rfl, hb, dx, gs, hv, hrs⟩ := rx.atRef hr1 es (by intro z; cases z)
          have em : Ext X.K β1 H1 β1 (upd H1 a (.ins (Cl d) dx (putF f v gs))) := Ext.mut hr1 hb hv trivial
          exact ⟨a, _, dx, gs, rfl, hv, hc, hn, by rw [← hrs.length]; exact hl, h β1 _ σ (x1.trans em) (hr1.mut hb hv trivial ⟨dx, _, upd_same, (putW_ok (rw.ext x1) hrs).ext em⟩) ((hs.ext x1).ext em)⟩
        · exact h.elim
      · exact h.elim
    · exact h.elim
/-- range(i, j, c) -/
@[simp] def mIRngC (a : MA) : MI := fun s st => (a s st).bind fun xs st1 => match xs with
  | [.int i, .int j, .int c] => if c ≠ 0 ∧ c.natAbs < 1073741824 ∧ Builtin.Range.small i j c = true ∧ 0 ≤ Builtin.Range.rangeSize i j c then .ok (.vals ((List.range (Builtin.Range.rangeSize i j c).toNat).map fun k => .int (i + (k : Nat) * c))) st1 else .stuck
  | _ => .stuck
theorem vals_three {K : PySem.W.Frag} {β : Bt} {H : Hp} {a b c : W} {vs : List V} (r : RVs K β H [a, b, c] vs) : ∃ x y z, vs = [x, y, z] ∧ RV K β H a x ∧ RV K β H b y ∧ RV K β H c z := by
  cases r with
  | cons r1 r => cases r with
    | cons r2 r => cases r with
      | cons r3 r => cases r; exact ⟨_, _, _, rfl, r1, r2, r3⟩
theorem ji_rngC {tg a b c : Expr} {p pos : Pos} {mr : MA} (hm : X.mg "range" = none) (ha : JA X Cl E [a, b, c] mr) (hg : Gl X "range" := by rfl)
    (hs : starEach [a, b, c] X.env = (false, eval a X.env) :: starEach [b, c] X.env := by rfl) (hpl : (backTo pos (starEach [b, c] X.env)).any (·.1) = false := by rfl) : JI X Cl E tg (.Call (.Name "range" p) [a, b, c] [] pos) (mIRngC mr) := by
  obtain ⟨t, pr, q⟩ := ha.ex
  refine ⟨_, pi_range3 hg hm pr hs hpl, fun β H σ s st R hr hs h => q β H σ s st _ hr hs (Out.bindI h fun x st1 β1 H1 v _ e1 hr1 rx h1 => ?_)⟩
  split at h1
  · split at h1
    · rename_i hz
      obtain ⟨u, w, y, rfl, ru, rw', ry⟩ := vals_three rx
      cases ru; cases rw'; cases ry
      exact ⟨_, _, _, _, rfl, ⟨hz.1, hz.2.1, hz.2.2.1, by have := hz.2.2.2; omega⟩, h1 β1 H1 _ (Ext.refl _ _ _) hr1 walkS_rngC⟩
    · exact h1.elim
  · exact h1.elim
/-- a statement that is never come to -/
@[simp] def mDead : MS := fun _ _ => .stuck
theorem js_dead {x : Stmt} : JS X Cl E x mDead := ⟨fun _ _ _ => False, ⟨fun _ _ _ _ _ _ h => h.elim⟩, fun _ _ _ _ _ _ _ _ h => h⟩
end
end Mi
/-! The mirror layer, part H: all, any, sum. -/
namespace Mi
open PySem L2
@[simp] def boolsW : List W → Option (List Bool)
  | [] => some []
  | .bl b :: ws => (boolsW ws).map (b :: ·)
  | _ => none
@[simp] def intsW : List W → Option (List Int)
  | [] => some []
  | .int b :: ws => (intsW ws).map (b :: ·)
  | _ => none
@[simp] def mAll : List W → Sto → Out W := fun xs st => match xs with
  | [x] => match asL x st with
    | some ws => match boolsW ws with
      | some bs => .ok (.bl (bs.all id)) st
      | none => .stuck
    | none => .stuck
  | _ => .stuck
@[simp] def mAny : List W → Sto → Out W := fun xs st => match xs with
  | [x] => match asL x st with
    | some ws => match boolsW ws with
      | some bs => .ok (.bl (bs.any id)) st
      | none => .stuck
    | none => .stuck
  | _ => .stuck
@[simp] def mSum : List W → Sto → Out W := fun xs st => match xs with
  | [x] => match asL x st with
    | some ws => match intsW ws with
      | some bs => .ok (.int bs.sum) st
      | none => .stuck
    | none => .stuck
  | _ => .stuck
section
variable {K : PySem.W.Frag} {β : Bt} {H : Hp}
theorem boolsW_ok : ∀ {ws : List W} {vs : List V} {bs : List Bool}, RVs K β H ws vs → boolsW ws = some bs → vs = bs.map V.bl
  | _, _, _, .nil, h => by cases h; rfl
  | _, _, _, .cons (w := w) (ws := ws) r rr, h => by
    cases w with
    | bl b =>
      simp only [boolsW, Option.map_eq_some_iff] at h
      obtain ⟨cs, h1, rfl⟩ := h
      cases r
      rw [boolsW_ok rr h1]; rfl
    | _ => cases h
theorem intsW_ok : ∀ {ws : List W} {vs : List V} {bs : List Int}, RVs K β H ws vs → intsW ws = some bs → vs = bs.map V.int
  | _, _, _, .nil, h => by cases h; rfl
  | _, _, _, .cons (w := w) (ws := ws) r rr, h => by
    cases w with
    | int b =>
      simp only [intsW, Option.map_eq_some_iff] at h
      obtain ⟨cs, h1, rfl⟩ := h
      cases r
      rw [intsW_ok rr h1]; rfl
    | _ => cases h
end
section
variable {X : Cx} {Cl : Nat → Addr} {E : XK}
theorem c_all (hc : X.calm = true) : CallR X (.builtin "all") (rAll X.K) ∧ SCal X.K Cl E (rAll X.K) mAll := by
  refine ⟨cr_all hc, fun β H st xs vs Q hr r h => ?_⟩
  unfold mAll at h
  split at h
  · split at h
    · rename_i ws el
      split at h
      · rename_i bs hb
        obtain ⟨v, rfl, rv⟩ := r.one
        obtain ⟨p, us, rfl, h1, r1⟩ := asL_ok hr rv el
        have e := boolsW_ok r1 hb
        subst e
        exact ⟨p, bs, rfl, h1, PoG.val h hr (.bl _)⟩
      · exact h.elim
    · exact h.elim
  · exact h.elim
theorem c_any (hc : X.calm = true) : CallR X (.builtin "any") (rAny X.K) ∧ SCal X.K Cl E (rAny X.K) mAny := by
  refine ⟨cr_any hc, fun β H st xs vs Q hr r h => ?_⟩
  unfold mAny at h
  split at h
  · split at h
    · rename_i ws el
      split at h
      · rename_i bs hb
        obtain ⟨v, rfl, rv⟩ := r.one
        obtain ⟨p, us, rfl, h1, r1⟩ := asL_ok hr rv el
        have e := boolsW_ok r1 hb
        subst e
        exact ⟨p, bs, rfl, h1, PoG.val h hr (.bl _)⟩
      · exact h.elim
    · exact h.elim
  · exact h.elim
theorem c_sum (hc : X.calm = true) : CallR X (.builtin "sum") (rSum X.K) ∧ SCal X.K Cl E (rSum X.K) mSum := by
  refine ⟨cr_sum hc, fun β H st xs vs Q hr r h => ?_⟩
  unfold mSum at h
  split at h
  · split at h
    · rename_i ws el
      split at h
      · rename_i bs hb
        obtain ⟨v, rfl, rv⟩ := r.one
        obtain ⟨p, us, rfl, h1, r1⟩ := asL_ok hr rv el
        have e := intsW_ok r1 hb
        subst e
        exact ⟨p, bs, rfl, h1, PoG.val h hr (.int _)⟩
      · exact h.elim
    · exact h.elim
  · exact h.elim
end
section
variable {X : Cx} {Cl : Nat → Addr} {E : XK}
/-- statements that are never come to -/
theorem jss_dead {x : List Stmt} : JSs X Cl E x mDead := ⟨fun _ _ _ => False, ⟨fun _ _ _ _ _ _ h => h.elim⟩, fun _ _ _ _ _ _ _ _ h => h⟩
end
end Mi
/-! The mirror layer, part I: enumerate over a list or a tuple. -/
namespace Mi
open PySem L2
theorem meets_enum1 {v : Value} {o : Obj} {H : Heap → Prop} (B : Begins v o H) :
    Meets (Builtin.«enumerate.__new__» ⟨[.type "enumerate", v], []⟩) (fun _ R s => H s.heap ∧
      R (.ok (.ret (.ref (s.heap.push o).objs.size))) { s with heap := (s.heap.push o).push { cls := .type "enumerate", data := .fields #[.none, .bool false, .ref s.heap.objs.size, rawInt 0, .none, .none] } }) :=
  .of_wp fun prog w A R s h => by
    obtain ⟨hp, g, d, tk, os⟩ := s; obtain ⟨h1, h⟩ := h
    have hsub := sub_enumerate
    have q1 : ∀ {A' : Around} {E : Value → Shared → Prop} {Q : Value → Shared → Prop}, Q (.ref hp.objs.size) ⟨hp.push o, g, d, tk, os⟩ → wpAny (model prog w) A' (pyIter v) Q E ⟨hp, g, d, tk, os⟩ :=
      fun q => B.iter prog w _ _ ⟨hp, g, d, tk, os⟩ _ h1 q
    wp_walk using q1
    refine wpAny_stack_any fun st => wpAny_pure ?_
    split
    · rename_i c _ _ _ _ _
      cases (c == Value.type "enumerate")
      · wp_walk using q1
        exact ⟨_, rfl, h⟩
      · wp_walk using q1
        exact ⟨_, rfl, h⟩
    · wp_walk using q1
      exact ⟨_, rfl, h⟩
section
variable {prog : Program} {w : World} {A : Around} {E : Value → Shared → Prop} {s : Shared}
theorem enum_begins1 {v : Value} {o : Obj} {H : Heap → Prop} {Q : Value → Shared → Prop} (B : Begins v o H) (h1 : H s.heap)
    (h : ∀ h', IsEnum h' (s.heap.objs.size + 1) s.heap.objs.size 0 .none → h'.get? s.heap.objs.size = some o → h'.objs.size = s.heap.objs.size + 2 →
      (∀ b o, s.heap.get? b = some o → h'.get? b = some o) → Q (.ref (s.heap.objs.size + 1)) { s with heap := h' }) :
    wpAny (model prog w) A (call (.type "enumerate") [v]) Q E s := by
  refine callType_new F.called_enumerate (by decide) (F.typeCall_enumerate_1 _) (F.newCall_enumerate_1 _) (fun obj => F.args_object_init_2 obj _) F.entry_enumerate_new
    (meets_enum1 B) ⟨h1, ?_⟩
  have hz : (s.heap.push o).objs.size = s.heap.objs.size + 1 := Heap.size_push ..
  show _ ∧ _
  rw [hz]
  have he : IsEnum ((s.heap.push o).push
      { cls := .type "enumerate", data := .fields #[.none, .bool false, .ref s.heap.objs.size, rawInt 0, .none, .none] }) (s.heap.objs.size + 1) s.heap.objs.size 0 .none := by
    have := Heap.get?_push_size (s.heap.push o)
      (o := { cls := .type "enumerate", data := .fields #[.none, .bool false, .ref s.heap.objs.size, rawInt 0, .none, .none] }) rfl
    rw [hz] at this; exact this
  exact ⟨⟨_, he, rfl⟩, h _ he (Heap.get?_push_of_some _ (Heap.get?_push_size _ B.free)) (by rw [Heap.size_push, hz]) fun b o x => Heap.get?_push_of_some _ (Heap.get?_push_of_some _ x)⟩
end
/-- the tuple at a, the items in new pairs -/
def IteT (K : PySem.W.Frag) (a : Addr) : It :=
  ⟨fun i H => ∃ (xs : List V) (x : V), SqT K H a xs ∧ xs[i]? = some x, fun i H v H' => ∃ T x, v = .ref T ∧ H T = none ∧ H' = upd H T (.tup [.int (i : Nat), x]) ∧ ∀ xs, SqT K H a xs → xs[i]? = some x, fun i H => ∃ xs : List V, SqT K H a xs ∧ xs.length ≤ i⟩
theorem turn_enumT {P : Program} {w : World} {K : PySem.W.Frag} {elts : List Expr} {kk : Nat} {tpos : Pos} (a e it : Addr) (hat : a ≠ it) (hae : a ≠ e) :
    Turn P w K (.Tuple elts kk tpos) (IteT K a) [e, it] e (fun i h => (∃ old, IsEnum h e it ((i : Nat) : Int) old) ∧ h.IsTupleIter it a i ∧ e ≠ it) where
  mem := by simp
  obj := fun i h st b hb => by
    obtain ⟨⟨old, he⟩, ⟨o, ho, hc, hd⟩, _⟩ := st
    have e' : b = e ∨ b = it := by simpa using hb
    rcases e' with z | z
    · rw [z]; exact ⟨_, he, fun v q => nomatch q⟩
    · rw [z]; exact ⟨o, ho, fun v q => by rw [hd] at q; cases q⟩
  keep := fun i h h' st k => let ⟨⟨old, he⟩, hi, hne⟩ := st; ⟨⟨old, k e (by simp) _ he⟩, hi.at fun o q => k it (by simp) o q, hne⟩
  item := by
    intro X hP hw hK hc i pins s σ H E I hf st hg
    subst hP hw hK
    obtain ⟨⟨old, he⟩, hit, hne⟩ := st
    obtain ⟨xs, x, hq, hx⟩ := hg
    obtain ⟨its, rv, p, hz⟩ := I.tuple hq
    obtain ⟨u, hu, ru⟩ := rv.get hx
    have hel : e < s.heap.objs.size := Heap.lt_size he
    have hil : it < s.heap.objs.size := by obtain ⟨_, q, _⟩ := hit; exact Heap.lt_size q
    have hi' : i < its.toArray.size := by
      have := (List.getElem?_eq_some_iff.mp hu).1
      simpa using this
    refine wpAny_pyNext_enum_itemD (Draws.tuple (show X.A.in1.handled = none from I.ok.hd hc) it a hat its.toArray) he ⟨hit, show s.heap.IsTuple a its.toArray from p⟩ hi' hne (by simp [hne, Ne.symm hae]) fun y h' tk hy ho hit' hT hsz hk => ?_
    have hyu : y = u := by
      have z : its[i]? = some y := by simpa using hy
      rw [hu] at z
      exact (Option.some.inj z).symm
    subst hyu
    refine ⟨_, rfl, wpAny_letOwnedTupleGo_enum (s := { s with heap := h', toks := tk + 1 }) ho fun h'' he' sb => ?_⟩
    have hT2 : h''.get? s.heap.objs.size = some { cls := .type "tuple", data := .seq #[.int i tk, y] } := (sb.2 _ (Nat.ne_of_gt hel)).trans hT
    have new : ObjOk X.prog X.w (upd H s.heap.objs.size (.tup [.int (i : Nat), x])) h'' s.heap.objs.size (.tup [.int (i : Nat), x]) :=
      ⟨by show 2 ≤ sizeLine; decide, [.int i tk, y], .cons ⟨_, rfl⟩ (.cons ru .nil), ⟨_, hT2, rfl, _, rfl⟩⟩
    have I1 : Inv X pins σ (upd H s.heap.objs.size (.tup [.int (i : Nat), x])) { s with heap := h'', toks := tk + 1 } :=
      I.turnedNew (ch := [e, it]) (fun b ob hb q => (sb.2 b (fun z => hb (by simp [z]))).trans (hk b ob (fun z => hb (by simp [z])) (fun z => hb (by simp [z])) q)) hf (Nat.le_refl _) new
    refine ⟨.ref s.heap.objs.size, _, I1, rfl, ⟨_, x, rfl, I.hok.fresh (Nat.le_refl _), rfl, fun ys hy => by rw [I.tuple_inj hy hq]; exact hx⟩, ⟨⟨y, ?_⟩, hit'.1.at fun o q => (sb.2 it (Ne.symm hne)).trans q, hne⟩, fun b hb => ?_⟩
    · have e1 : ((i + 1 : Nat) : Int) = (i : Int) + 1 := by omega
      rw [e1]; exact he'
    · have hb' : b < s.heap.objs.size := by
        have e' : b = e ∨ b = it := by simpa using hb
        rcases e' with z | z
        · rw [z]; exact hel
        · rw [z]; exact hil
      rw [upd_ne (Nat.ne_of_lt hb')]
      exact (hf b hb).1
  done := by
    intro X hP hw hK hc i pins s σ H E I hf st hg
    subst hP hw hK
    obtain ⟨⟨old, he⟩, hit, hne⟩ := st
    obtain ⟨xs, hq, hx⟩ := hg
    obtain ⟨its, rv, p, hz⟩ := I.tuple hq
    obtain ⟨f0, f1, f2, f3, f4, f5⟩ := hf it (by simp)
    have hl := rv.length
    have hT : s.TypeIs (.ref e) "enumerate" := ⟨_, he, rfl⟩
    unfold pyNext
    refine wpAny_bind (wpAny_attempt (wpAny_callSpecial?_slot (name := Str.ofString "__next__") hT F.slot_enumerate_next
      (wpAny_call_entry F.slot_enumerate_next hT F.entry_enumerate_next ?_ (F.args_enumerate_next_1 _))))
    show wpAny _ _ (field (.ref e) 2 >>= _) _ _ _
    refine wpAny_bind (wpAny_field he rfl (x := .ref it) rfl ?_)
    refine wpAny_bind (wpAny_nextOf_tuple_end (show X.A.in1.handled = none from I.ok.hd hc) hit (show s.heap.IsTuple a its.toArray from p) (by simp; omega) fun h' x he' hx' => ?_)
    obtain ⟨o, ho, hc⟩ := hx'
    refine wpAny_bind (wpAny_isInstance (T := "StopIteration") (b := true) ⟨o, ho, hc⟩ isSubtype_stop ?_)
    exact wpAny_pure ⟨rfl, I.turned (t' := s.toks) (fun b o hb q => he' b o hb q) f0 f1 f3 f4 f5⟩
  self := fun A i s Q E st h => let ⟨⟨_, he⟩, _⟩ := st; wpAny_pyIter_enum he h
theorem walk_enumT {K : PySem.W.Frag} {a : Addr} {xs : List V} : Walk (IteT K a) xs.length (fun H => SqT K H a xs) (YPair (fun i => some (.int (i : Nat))) (fun i => xs[i]?)) := by
  refine ⟨fun i _ hi q => ⟨xs, xs[i], q, by simp [hi]⟩, fun _ q => ⟨xs, q, Nat.le_refl _⟩, fun i H v H' _ q y => ?_⟩
  obtain ⟨T, x, h1, h2, h3, h4⟩ := y
  exact ⟨T, .int (i : Nat), x, h1, h2, h3, rfl, h4 xs q⟩
def iEnumB (K : PySem.W.Frag) (ta : TA) : TI := fun σ H R => ta σ H fun vs H1 => ∃ a, vs = [.ref a] ∧ ((∃ xs, SqL K H1 a xs ∧ R (Ite K a) H1) ∨ ∃ xs, SqT K H1 a xs ∧ R (IteT K a) H1)
open PyProof.Rows in
theorem pi_enumB {X : Cx} {e : Expr} {ta : TA} {p pos tpos : Pos} {elts : List Expr} {kk : Nat} (hg : Gl X "enumerate") (hm : X.mg "enumerate" = none) (ha : PA X [e] ta) (hs : starEach [e] X.env = [(false, eval e X.env)] := by rfl) :
    PI X (.Tuple elts kk tpos) (.Call (.Name "enumerate" p) [e] [] pos) (iEnumB X.K ta) := by
  refine ⟨fun pins s σ H R I h => ?_⟩
  refine Call_ (ld_blt I hg hm boot_enumerate (PyProof.Rows.callWith_type1 (thn (ha.run pos pins s σ H _ I h) fun us s1 ⟨vs, H1, I1, r1, q1⟩ => ?_) hs rfl))
  obtain ⟨a, ex, q1⟩ := q1
  subst ex
  have fp : ∀ {h' : Heap} (I2 : Inv X pins σ H1 { s1 with heap := h' }), ∀ b ∈ [s1.heap.objs.size + 1, s1.heap.objs.size], s1.heap.objs.size ≤ b := fun _ b hb => by
    have e' : b = s1.heap.objs.size + 1 ∨ b = s1.heap.objs.size := by simpa using hb
    rcases e' with z | z
    · rw [z]; exact Nat.le_add_right _ _
    · rw [z]; exact Nat.le_refl _
  cases r1 with
  | cons r rr =>
    cases rr
    cases r
    rcases q1 with ⟨xs, hq, q⟩ | ⟨xs, hq, q⟩
    · obtain ⟨its, rv, p', hz⟩ := I1.list hq
      refine call_enumerate_list p'.isList fun h' he hit hsz hk => wpAny_pyIter_enum he ?_
      have I2 : Inv X pins σ H1 { s1 with heap := h' } := I1.kept (t' := s1.toks) hk
      refine ⟨s1.heap.objs.size + 1, [s1.heap.objs.size + 1, s1.heap.objs.size], _, _, H1, rfl, I2, turn_enum a (s1.heap.objs.size + 1) s1.heap.objs.size, ⟨⟨.none, he⟩, hit, Nat.succ_ne_self _⟩, fun b hb => ?_, q⟩
      have hle := fp I2 b hb
      exact I1.fpOk hle (I1.hok.fresh hle)
    · obtain ⟨its, rv, p', hz⟩ := I1.tuple hq
      have hal : a < s1.heap.objs.size := by obtain ⟨_, z, _⟩ := p'; exact Heap.lt_size z
      refine enum_begins1 (begins_tuple a its.toArray) p' fun h' he hit hsz hk => wpAny_pyIter_enum he ?_
      have I2 : Inv X pins σ H1 { s1 with heap := h' } := I1.kept (t' := s1.toks) hk
      refine ⟨s1.heap.objs.size + 1, [s1.heap.objs.size + 1, s1.heap.objs.size], _, _, H1, rfl, I2, turn_enumT a (s1.heap.objs.size + 1) s1.heap.objs.size (Nat.ne_of_lt hal) (Nat.ne_of_lt (Nat.lt_succ_of_lt hal)), ⟨⟨.none, he⟩, ⟨_, hit, rfl, rfl⟩, Nat.succ_ne_self _⟩, fun b hb => ?_, q⟩
      have hle := fp I2 b hb
      exact I1.fpOk hle (I1.hok.fresh hle)
@[simp] def mIEnum2 (a : MA) : MI := fun s st => (a s st).bind fun xs st1 => match xs with
  | [.lst ws] => .ok (.vals ((List.range ws.length).map fun i => .tup [.int (i : Nat), ws.getD i .non])) st1
  | [.xst ws] => .ok (.vals ((List.range ws.length).map fun i => .tup [.int (i : Nat), ws.getD i .non])) st1
  | [.tup ws] => .ok (.vals ((List.range ws.length).map fun i => .tup [.int (i : Nat), ws.getD i .non])) st1
  | _ => .stuck
section
variable {X : Cx} {Cl : Nat → Addr} {E : XK}
theorem walkS_en {K : PySem.W.Frag} {β : Bt} {H : Hp} {J : It} {G : Hp → Prop} {ws : List W} {vs : List V} (wk : Walk J vs.length G (YPair (fun i => some (.int (i : Nat))) (fun i => vs[i]?))) (hG : ∀ β' H', Ext K β H β' H' → G H') (r : RVs K β H ws vs) :
    WalkS K Cl β H J (.vals ((List.range ws.length).map fun i => .tup [.int (i : Nat), ws.getD i .non])) := by
  refine ⟨G, _, (show Walk J ((List.range ws.length).map fun i => W.tup [.int (i : Nat), ws.getD i .non]).length _ _ from by rw [List.length_map, List.length_range, r.length]; exact wk), fun β' H' st e hr _ => hG β' H' e, fun i H1 x H2 β1 st w e hr hw y => ?_⟩
  obtain ⟨T, a, b, rfl, hT, rfl, ha, hb⟩ := y
  have hw' : ((List.range ws.length).map fun i => W.tup [.int (i : Nat), ws.getD i .non])[i]? = some w := hw
  rw [List.getElem?_map] at hw'
  by_cases hi : i < ws.length
  · rw [List.getElem?_range hi] at hw'
    cases hw'
    cases ha
    obtain ⟨v, hv, rv⟩ := r.get (show ws[i]? = some ws[i] from List.getElem?_eq_getElem hi)
    have hb' : vs[i]? = some b := hb
    have hbv : b = v := by rw [hb'] at hv; exact Option.some.inj hv
    subst hbv
    have eg : ws.getD i .non = ws[i] := by simp [List.getD, hi]
    refine ⟨Ext.new hT, hr.new hT, ?_⟩
    show RV K β1 _ (W.tup [W.int (i : Nat), ws.getD i W.non]) (V.ref T)
    rw [eg]
    exact RV.newT hT (.cons (.int _) (.cons (rv.ext e) .nil))
  · rw [List.getElem?_eq_none (by simp; omega)] at hw'
    cases hw'
theorem ji_enum {e : Expr} {mr : MA} {p pos tpos : Pos} {elts : List Expr} {kk : Nat} (hm : X.mg "enumerate" = none) (ha : JA X Cl E [e] mr) (hg : Gl X "enumerate" := by rfl) (hs : starEach [e] X.env = [(false, eval e X.env)] := by rfl) :
    JI X Cl E (.Tuple elts kk tpos) (.Call (.Name "enumerate" p) [e] [] pos) (mIEnum2 mr) := by
  obtain ⟨t, pr, q⟩ := ha.ex
  refine ⟨_, pi_enumB hg hm pr hs, fun β H σ s st R hr hs h => q β H σ s st _ hr hs (Out.bindI h fun x st1 β1 H1 v _ e1 hr1 rx h1 => ?_)⟩
  split at h1
  · obtain ⟨u, rfl, ru⟩ := rx.one
    cases ru with
    | lst hv hn r1 => exact ⟨_, rfl, .inl ⟨_, SqL.of hv, h1 β1 H1 _ (Ext.refl _ _ _) hr1 (walkS_en walk_enum (fun β' H' e => SqL.of (e.lst _ _ hv hn).1) r1)⟩⟩
  · obtain ⟨u, rfl, ru⟩ := rx.one
    cases ru with
    | xst hv r1 => exact ⟨_, rfl, .inl ⟨_, KL.sq hv, h1 β1 H1 _ (Ext.refl _ _ _) hr1 (walkS_en walk_enum (fun β' H' e => KL.sq (hv.imp (fun x => x) fun ⟨o, x⟩ => ⟨o, e.frz _ _ _ x⟩)) r1)⟩⟩
  · obtain ⟨u, rfl, ru⟩ := rx.one
    cases ru with
    | tup hv r1 => exact ⟨_, rfl, .inr ⟨_, hv, h1 β1 H1 _ (Ext.refl _ _ _) hr1 (walkS_en walk_enumT (fun β' H' e => e.tup _ _ hv) r1)⟩⟩
  · exact h1.elim
end
end Mi
/-! The mirror layer, part J: dicts with tuple keys. -/
namespace Mi
open PySem PySem.W PySem.Calls PyProof.Rows PyProof.V PySem.Spec L2

section
variable {X : Cx}
def rSetdefT : V → List V → Hp → VK → Prop := fun x xs H Q => ∃ (a : Addr) (kvs : List (List L2.Key × V)) (k : List L2.Key) (b : Addr) (d : V), x = .ref a ∧ xs = [.ref b, d] ∧ H a = some (.dT kvs) ∧ H b = some (.tup (k.map kV)) ∧ kvs.length < sizeLine ∧
  (∀ v, valV kvs k = some v → Q v H) ∧ (valV kvs k = none → Q d (upd H a (.dT (putK kvs k d))))
theorem mt_setdefT (hu : X.A.units + 1 < cLine) : MtR X "dict.setdefault" rSetdefT := by
  intro pins s σ H x xs v us Q I rx rxs h
  obtain ⟨a, kvs, k, b, d, rfl, rfl, ha, hb, hlt, q1, q2⟩ := h
  cases rx
  obtain ⟨u1, u2, rfl, r1, r2⟩ := vals2 rxs
  cases r1
  obtain ⟨z, hd, xs', rel, dd⟩ := dt_of I.hok ha
  have hz : xs'.length ≤ sizeLine := by rw [← Paired.length rel]; exact z
  refine call_meetsIn PySem.F.slot_dict_setdefault dd.typeIs PySem.F.entry_dict_setdefault (PySem.F.args_dict_setdefault_3 _ _ _) (meetsH_dict_setdefault (tupleKind (mixKind X.prog X.w)) a b hd u2)
    ⟨tupleKind_room_in1 hu, k, xs', key_of I.hok hb, dd, hz, fun p hp => ?_, fun hn h' dd' hs => ?_⟩
  · have r := rel.val k
    rw [hp] at r
    obtain ⟨v0, ev, rv⟩ : ∃ v0, valV kvs k = some v0 ∧ RelV v0 p.2 := by
      cases ev : valV kvs k with
      | none =>
        rw [ev] at r
        exact (show False from r).elim
      | some v0 =>
        rw [ev] at r
        exact ⟨v0, rfl, r⟩
    show EP X pins σ Q p.2 _
    exact ⟨v0, H, I.tok _, rv, q1 v0 ev⟩
  · have r := rel.val k
    rw [hn] at r
    have e : valV kvs k = none := by
      cases ev : valV kvs k with
      | none => rfl
      | some v0 =>
        rw [ev] at r
        exact (show False from r).elim
    obtain ⟨o, es, ep, hq, h2, h3, h4, _, h5⟩ := dd'
    have hl : (putK kvs k d).length ≤ sizeLine := by have := length_putK kvs k d; omega
    have I2 : Inv X pins σ (upd H a (.dT (putK kvs k d))) { s with heap := h', toks := s.toks + (tupleKind (mixKind X.prog X.w)).draws k } :=
      d_write I (by rw [ha]; exact True.intro) hs ⟨o, hq⟩ ⟨hl, hd, _, (rel.put k hb r2).keeps (fun c ys ec => (by rw [upd_ne (ne_of ec ha (fun z => nomatch z))]; exact ec)), o, es, ep, hq, h2, h3, h4, h5⟩
    show EP X pins σ Q u2 _
    exact ⟨d, _, I2, r2, q2 e⟩
end

@[simp] def keysT : List W → Option (List Key)
  | [] => some []
  | w :: r => match toKey w, keysT r with
    | some k, some ks => some (k :: ks)
    | _, _ => none
theorem keysT_ok {K : PySem.W.Frag} {β : Bt} {H : Hp} : ∀ {ws : List W} {vs : List V} {ks : List Key}, RVs K β H ws vs → keysT ws = some ks → vs = ks.map kV
  | _, _, ks, .nil, h => by simp only [keysT] at h; cases h; rfl
  | _, _, ks, .cons (w := w) (ws := ws) r1 r, h => by
    unfold keysT at h
    split at h
    · rename_i k ks' e1 e2
      cases h
      rw [toKey_ok r1 e1, keysT_ok r e2]
      rfl
    · cases h
/-- {} , a dict with tuple keys -/
@[simp] def mDNewT : ME := fun _ st => .ok (.ref st.length) (st ++ [.dT []])
/-- d.setdefault((..), []) -/
@[simp] def mSetDef (o : ME) (a : MA) : ME := fun s st => (o s st).bind fun x st1 => match x with
  | .ref r => match st1[r]? with
    | some (.dT _) => (a s st1).bind fun ks st2 => match st2[r]?, keysT ks with
      | some (.dT kvs), some k => if kvs.length < sizeLine ∧ ks.length ≤ sizeLine then match valW kvs k with
          | some w => .ok w st2
          | none => .ok (.ref st2.length) ((st2 ++ [Ob.lst []]).set r (.dT (putKW kvs k (.ref st2.length))))
        else .stuck
      | _, _ => .stuck
    | _ => .stuck
  | _ => .stuck
section
variable {X : Cx} {Cl : Nat → Addr} {E : XK} {pos p : Pos}
theorem je_dnewT : JE X Cl E (.Dict [] [] pos) mDNewT :=
  ⟨_, pe_dnewT, fun β H σ s st Q hr hs h p hp => h _ _ _ (Ext.push hp) (hr.push hp ⟨[], upd_same, .nil⟩) (.ref (by rw [← hr.len]; exact push_last))⟩
theorem je_setdef {o : Expr} {es : List Expr} {k : Nat} {tpos lpos apos cpos : Pos} {mo : ME} {mr : MA} (hu : X.A.units + 1 < cLine)
    (ho : JE X Cl E o mo) (ha : JA X Cl E es mr)
    (hbase : attributeBase o "setdefault" X.env (eval o X.env) = eval o X.env := by rfl)
    (hfew : ((backTo cpos (starEach [.Tuple es k tpos, .List [] lpos] X.env)).all (fun x => !x.1) && (backToKw cpos (keywordEach [] X.env)).all (fun x => x.1.isSome) && decide ([Expr.Tuple es k tpos, .List [] lpos].length + ([] : List Keyword).length + (if ([] : List Keyword).isEmpty then 0 else 1) < 30)) = true := by rfl)
    (hline : (apos.endLine == cpos.line) = true := by rfl)
    (hs : starEach [.Tuple es k tpos, .List [] lpos] X.env = (false, eval (.Tuple es k tpos) X.env) :: starEach [.List [] lpos] X.env := by rfl)
    (hs2 : starEach [.List [] lpos] X.env = (false, eval (.List [] lpos) X.env) :: starEach [] X.env := by rfl)
    (hplain : (backTo cpos (starEach [.List [] lpos] X.env)).any (·.1) = false := by rfl) :
    JE X Cl E (.Call (.Attribute o "setdefault" apos) [.Tuple es k tpos, .List [] lpos] [] cpos) (mSetDef mo mr) := by
  obtain ⟨_, p1, q1⟩ := ho.ex
  obtain ⟨_, p2, q2⟩ := ha.ex
  refine ⟨_, pe_bm F.plainAttrs_dict F.slot_dict_setdefault F.type_dict_setdefault (mt_setdefT hu) p1 (pa_cons (pe_tup p2) (pa_cons (pe_lst pa_nil) pa_nil hs2) hs) hbase hfew hline hs hplain, fun β H σ s st Q hr hs h => q1 β H σ s st _ hr hs (h.bind fun x st1 β1 H1 v _ e1 hr1 rx1 h1 => ?_)⟩
  cases x with
  | ref r =>
    simp only at h1
    split at h1
    · rename_i kv0 es1
      have ty : tyV X.K "dict" v H1 := by
        obtain ⟨a, rfl, _, gs, hg, _⟩ := rx1.atRef hr1 es1 (by intro z; cases z)
        exact .inr (.inr (.inl ⟨rfl, .inr ⟨gs, hg⟩⟩))
      refine ⟨ty, q2 β1 H1 σ s st1 _ hr1 (hs.ext e1) (h1.bind fun ks st2 β2 H2 vs _ e2 hr2 rk h2 => ?_)⟩
      have rx2 := rx1.ext e2
      split at h2
      · rename_i kvs k es2 ek
        split at h2
        · rename_i hz
          have evs := keysT_ok rk ek
          refine ⟨by rw [← rk.length]; exact hz.2, fun p hp => ?_⟩
          refine ⟨Nat.zero_le _, fun l hl => ?_⟩
          have e3 : Ext X.K β2 H2 β2 (upd H2 p (.tup vs)) := Ext.new hp
          have hr3 : HR X.K Cl β2 (upd H2 p (.tup vs)) st2 := hr2.new hp
          have hpl : p ≠ l := fun z => by subst z; rw [upd_same] at hl; cases hl
          have hkey : ∀ (o : HO), (upd (upd H2 p (.tup vs)) l o) p = some (.tup (k.map kV)) := fun o => by rw [upd_ne hpl, upd_same, evs]
          cases ew : valW kvs k with
          | some w =>
            rw [ew] at h2
            have e4 : Ext X.K β2 (upd H2 p (.tup vs)) β2 (upd (upd H2 p (.tup vs)) l (.lst [])) := Ext.new hl
            have hr4 : HR X.K Cl β2 (upd (upd H2 p (.tup vs)) l (.lst [])) st2 := hr3.new hl
            obtain ⟨a, rfl, hb, gs, hg, hrs⟩ := ((rx2.ext e3).ext e4).atRef hr4 es2 (by intro z; cases z)
            obtain ⟨v', hv', rv'⟩ := hrs.val ew
            refine ⟨a, gs, k, p, _, rfl, rfl, hg, hkey _, by rw [← hrs.length]; exact hz.1, fun v0 e0 => ?_, fun e0 => by rw [hv'] at e0; cases e0⟩
            rw [hv'] at e0; cases e0
            exact h2 β2 _ _ (e3.trans e4) hr4 rv'
          | none =>
            rw [ew] at h2
            have e4 : Ext X.K β2 (upd H2 p (.tup vs)) (β2.push l) (upd (upd H2 p (.tup vs)) l (.lst [])) := Ext.push hl
            have hr4 : HR X.K Cl (β2.push l) (upd (upd H2 p (.tup vs)) l (.lst [])) (st2 ++ [.lst []]) := hr3.push hl ⟨[], upd_same, .nil⟩
            have hlt : r < st2.length := (List.getElem?_eq_some_iff.mp es2).1
            have es4 : (st2 ++ [Ob.lst []])[r]? = some (.dT kvs) := by rw [List.getElem?_append_left hlt]; exact es2
            obtain ⟨a, rfl, hb, gs, hg, hrs⟩ := ((rx2.ext e3).ext e4).atRef hr4 es4 (by intro z; cases z)
            have em : Ext X.K (β2.push l) _ (β2.push l) (upd (upd (upd H2 p (.tup vs)) l (.lst [])) a (.dT (putK gs k (.ref l)))) := Ext.mut hr4 hb hg trivial
            have rl : RV X.K (β2.push l) (upd (upd H2 p (.tup vs)) l (.lst [])) (.ref st2.length) (.ref l) := .ref (by rw [← hr3.len]; exact push_last)
            refine ⟨a, gs, k, p, _, rfl, rfl, hg, hkey _, by rw [← hrs.length]; exact hz.1, ⟨fun v0 e0 => (by rw [hrs.valN ew] at e0; cases e0), fun _ => ?_⟩⟩
            exact h2 (β2.push l) _ _ ((e3.trans e4).trans em) (hr4.mut hb hg trivial ⟨_, upd_same, (hrs.put k rl).ext em⟩) (rl.ext em)
        · exact h2.elim
      · exact h2.elim
    · exact h1.elim
  | _ => exact h1.elim
end
end Mi
/-! The mirror layer, part K: the values of a dict with tuple keys walked (the dict locked). -/
namespace Mi
open PySem PySem.W PySem.Calls PyProof.Rows PyProof.V PySem.Spec L2
def Itdt (d : Addr) (o : Obj) (kvs : List (List Key × V)) : It :=
  ⟨fun i H => H d = some (.frz o (.dT kvs)) ∧ i < kvs.length, fun i H x H' => H' = H ∧ ∃ k, kvs[i]? = some (k, x), fun i H => H d = some (.frz o (.dT kvs)) ∧ kvs.length ≤ i⟩
section
variable {X : Cx} {pins : List (Addr × Obj)} {σ : L2.St} {H : Hp} {s : Shared} {d : Addr} {o : Obj}
theorem frzTv {kvs : List (List Key × V)} (I : Inv X pins σ H s) (h : H d = some (.frz o (.dT kvs))) :
    (d == sysModules) = false ∧ s.heap.get? d = some o ∧ o.ExactDict ∧ ∃ (es : Array DictEntry) (ep : Nat), o.data = .dict es ep ∧ es.size = kvs.length ∧
      ∀ (i : Nat) (k : List Key) (v : V), kvs[i]? = some (k, v) → ∃ (en : DictEntry), es[i]? = some en ∧ RelV v en.val := by
  obtain ⟨hd, z, hs, xs, pr, o', es, ep, ho, hx, hdt, he, _⟩ := I.hok d _ h
  rw [hd] at ho
  cases ho
  refine ⟨hs, hd, hx, es, ep, hdt, ?_, fun i k v e => ?_⟩
  · have l1 : es.size = xs.length := size_of_entries he
    have l2 : kvs.length = xs.length := Paired.length pr
    omega
  · obtain ⟨b, hb, e1, e2, e3⟩ := paired_get pr e
    have q := entry_at he i
    rw [hb] at q
    exact ⟨_, q, e3⟩
end
section
variable {P : Program} {w : World} {K : PySem.W.Frag} {tg : Expr} {d : Addr} {o : Obj} {es : Array DictEntry} {ep : Nat}
theorem turn_valsT {kvs : List (List Key × V)} (it : Addr) (hod : o.data = .dict es ep) : Turn P w K tg (Itdt d o kvs) [it] it (fun i h => h.IsValIter it d i kvs.length ep) where
  mem := by simp
  obj := fun i h st b hb => by
    have e : b = it := by simpa using hb
    subst e
    obtain ⟨oi, e, c, dd⟩ := st
    exact ⟨oi, e, fun v z => by rw [dd] at z; cases z⟩
  keep := fun i h h' st k => st.at fun oi e => k it (by simp) oi e
  item := by
    intro X hP hw hK hc i pins s σ H E I hf st hg
    subst hP hw hK
    obtain ⟨hd, hi⟩ := hg
    obtain ⟨f0, f1, f2, f3, f4, f5⟩ := hf it (by simp)
    obtain ⟨hs, hgd, hx, es', ep', hdt, hsz, ent⟩ := frzTv I hd
    obtain ⟨rfl, rfl⟩ := dict_ep hod hdt
    obtain ⟨⟨k, v⟩, hkv⟩ : ∃ p, kvs[i]? = some p := ⟨kvs[i], List.getElem?_eq_getElem hi⟩
    obtain ⟨en, hen, ru⟩ := ent i k v hkv
    obtain ⟨hil, hie⟩ := Array.getElem?_eq_some_iff.mp hen
    rw [← hsz] at st
    refine wpAny_pyNext_values_item_raw st ⟨o, hgd, hx, hdt⟩ hil fun h' st' sb => ?_
    have I1 : Inv X pins σ H { s with heap := h' } := I.turned (t' := s.toks) (fun b ob hb e => (sb.2 b hb).trans e) f0 f1 f3 f4 f5
    obtain ⟨oi, e, c, dd⟩ := id st'
    rw [hie]
    refine ⟨en.val, rfl, go_of (s := { s with heap := h' }) e c dd (by decide) ⟨v, H, I1, ru, ⟨rfl, k, hkv⟩, ?_, fun b hb => (hf b hb).1⟩⟩
    show h'.IsValIter it d (i + 1) kvs.length _
    rw [← hsz]
    exact st'
  done := by
    intro X hP hw hK hc i pins s σ H E I hf st hg
    subst hP hw hK
    obtain ⟨hd, hi⟩ := hg
    obtain ⟨f0, f1, f2, f3, f4, f5⟩ := hf it (by simp)
    obtain ⟨hs, hgd, hx, es', ep', hdt, hsz, ent⟩ := frzTv I hd
    obtain ⟨rfl, rfl⟩ := dict_ep hod hdt
    rw [← hsz] at st
    exact wpAny_pyNext_values_end_raw (I.ok.hd hc) st ⟨o, hgd, hx, hdt⟩ (by omega) fun h' eb => ⟨rfl, I.turned (t' := s.toks) (fun b ob hb e => eb b ob hb e) f0 f1 f3 f4 f5⟩
  self := fun A i s Q E st h => wpAny_pyIter_valiter st h
end
def iValsT (td : TE) : TI := fun σ H R => td σ H fun x H1 => ∃ d o kvs, x = .ref d ∧ H1 d = some (.frz o (.dT kvs)) ∧ R (Itdt d o kvs) H1
theorem pi_valuesT {X : Cx} {tg e : Expr} {td : TE} {apos cpos : Pos} (he : PE X e td) (hbase : attributeBase e "values" X.env (eval e X.env) = eval e X.env := by rfl) (hline : (apos.endLine == cpos.line) = true := by rfl) : PI X tg (.Call (.Attribute e "values" apos) [] [] cpos) (iValsT td) := by
  refine ⟨fun pins s σ H R I h => ?_⟩
  refine wpAny_Call_method (T := "dict") (id := "dict.values") hbase rfl hline F.plainAttrs_dict F.slot_dict_values F.type_dict_values (thn (he.run pins s σ H _ I h) fun u s1 ⟨x, H1, I1, rx, d, o, kvs, ex, hd, q⟩ => ?_)
  subst ex
  obtain rfl : u = Value.ref d := rx
  obtain ⟨hs, hgd, hx, es, ep, hdt, hsz, ent⟩ := frzTv I1 hd
  have hraw : s1.heap.DictRaw d es ep := ⟨o, hgd, hx, hdt⟩
  have hty : s1.TypeIs (.ref d) "dict" := ⟨o, hgd, hx.1⟩
  refine ⟨hty, ?_, ?_⟩
  · intro a ea; cases ea; exact ⟨o, hgd, hx.2.1⟩
  have I2 : Inv X pins σ H1 { s1 with heap := s1.heap.push { cls := .type "dict_values", data := .fields #[.ref d] } } := I1.kept (t' := s1.toks) fun b ob q => Heap.get?_push_of_some _ q
  have fin : wpAny (model X.prog X.w) X.A (pyIter (.ref s1.heap.objs.size)) (PIE X pins σ tg R) X.xe { s1 with heap := s1.heap.push { cls := .type "dict_values", data := .fields #[.ref d] } } := by
    refine wpAny_pyIter_values_raw (d := d) (es := es) (ep := ep) ⟨_, Heap.get?_push_size _ rfl, rfl, rfl⟩ ⟨o, Heap.get?_push_of_some _ hgd, hx, hdt⟩ (pi_one (tk := s1.toks) I2 _ (turn_valsT _ hdt) ⟨_, Heap.get?_push_size _ rfl, rfl, ?_⟩ q)
    rw [hsz] <;> rfl
  show wpAny _ _ (callWith cpos (.builtin "dict.values") [.ref d] [] []) _ X.xe s1
  exact method_meetsIn F.slot_dict_values F.entry_dict_values rfl (PySem.evalArgs_none ⟨rfl, hty, F.args_dict_values_1 _, _, meets_dict_values_raw d hs, ⟨⟨es, ep, hraw⟩, fin⟩⟩)
end Mi
/-! The mirror layer, part L: [len(x) for x in self.f.values()], f a dict with tuple keys whose values are lists. -/
namespace Mi
open PySem L2
@[simp] def lensW (st : Sto) : List (List Key × W) → Option (List Int)
  | [] => some []
  | (_, .ref l) :: r => match st[l]?, lensW st r with
    | some (.lst ws), some ls => some ((ws.length : Nat) :: ls)
    | _, _ => none
  | _ => none
def mLenVals (c : Nat) (f : Str) (i v : Nat) : ME := fun s st => match s[i]? with
  | some (some (.ref q)) => match st[q]? with
    | some (.ins d fs) => match fs.lookup f with
      | some (.ref r) => match st[r]? with
        | some (.dT kvs) => match lensW st kvs with
          | some ls => if d = c ∧ v < s.length ∧ kvs.length < sizeLine then .ok (.lst (ls.map W.int)) st else .stuck
          | none => .stuck
        | _ => .stuck
      | _ => .stuck
    | _ => .stuck
  | _ => .stuck
theorem lensW_ok {K : PySem.W.Frag} {Cl : Nat → Addr} {β : Bt} {H : Hp} {st : Sto} (hr : HR K Cl β H st) : ∀ {kvs : List (List Key × W)} {gs : List (List Key × V)} {ls : List Int}, RF K β H kvs gs → lensW st kvs = some ls →
    ls.length = gs.length ∧ ∀ (j : Nat) (k : List Key) (v : V), gs[j]? = some (k, v) → ∃ (l : Addr) (us : List V), v = .ref l ∧ H l = some (.lst us) ∧ ls[j]? = some ((us.length : Nat) : Int)
  | _, _, ls, .nil, h => by simp only [lensW] at h; cases h; exact ⟨rfl, fun j k v e => by simp at e⟩
  | _, _, ls, .cons (k := k0) (w := w) (v := v0) (fs := fs) (gs := gs) h0 t, h => by
    cases w with
    | ref l =>
      simp only [lensW] at h
      split at h
      · rename_i ws ls' e1 e2
        cases h
        obtain ⟨h1, h2⟩ := lensW_ok hr t e2
        obtain ⟨a, rfl, _, us, hu, hrs⟩ := h0.atRef hr e1 (by intro z; cases z)
        refine ⟨by simp [h1], fun j k v e => ?_⟩
        cases j with
        | zero =>
          simp at e
          obtain ⟨rfl, rfl⟩ := e
          exact ⟨a, us, rfl, hu, by simp [hrs.length]⟩
        | succ j =>
          simp at e
          obtain ⟨l', us', q1, q2, q3⟩ := h2 j k v e
          exact ⟨l', us', q1, q2, by simpa using q3⟩
      · cases h
    | _ => simp [lensW] at h
section
variable {X : Cx} {Cl : Nat → Addr} {E : XK}
theorem rvs_ints {K : PySem.W.Frag} {β : Bt} {H : Hp} : ∀ ls : List Int, RVs K β H (ls.map W.int) (ls.map V.int)
  | [] => .nil
  | _ :: ls => .cons (.int _) (rvs_ints ls)
def rLen (K : PySem.W.Frag) : List V → Hp → VK → Prop := fun xs H Q => ∃ x n, xs = [x] ∧ LenV K x H n ∧ Q (.int n) H
theorem se_lenVals {K : PySem.W.Frag} {c : Nat} {f : Str} {i v : Nat} (hc : Cls K (Cl c)) (hn : NoAttr K (Cl c) f) :
    SE K Cl E (tLockE (tLc (iValsT (tFld K (tVar i) f)) (gName v) tYes (tCB (rLen K) (tCons (tVar v) tNil)) [v])) (mLenVals c f i v) := fun β H σ s st Q hr hs h => by
  unfold mLenVals at h
  split at h
  · rename_i q es
    split at h
    · rename_i d fs eq
      split at h
      · rename_i r el
        split at h
        · rename_i kvs er
          split at h
          · rename_i ls els
            split at h
            · rename_i hz
              obtain ⟨rfl, hv, hkl⟩ := hz
              obtain ⟨x, hx, rx⟩ := hs.2 i _ es
              obtain ⟨a, rfl, _, dx, gs, ha, hrs⟩ := rx.atRef hr eq (by intro z; cases z)
              obtain ⟨y, hy, ry⟩ := hrs.look el
              obtain ⟨dd, rfl, _, gv, hd, hrv⟩ := ry.atRef hr er (by intro z; cases z)
              obtain ⟨l1, l2⟩ := lensW_ok hr hrv els
              have hne : a ≠ dd := fun z => by subst z; rw [hd] at ha; cases ha
              refine ⟨dd, .dT gv, hd, trivial, fun od => ?_⟩
              refine ⟨_, hx, a, _, dx, gs, _, rfl, (by rw [upd_ne hne]; exact ha), hc, hn, hy, dd, od, gv, rfl, upd_same, fun D hD => ?_⟩
              have hDd : D ≠ dd := fun z => by subst z; rw [upd_same] at hD; cases hD
              have hDH : H D = none := by rw [upd_ne hDd] at hD; exact hD
              refine ⟨fun j m H' => H' = upd (upd H dd (.frz od (.dT gv))) D (.lst ((ls.take j).map V.int)) ∧ m = gv.length - j, ⟨gv.length, by simp⟩, ?_⟩
              rintro j m H' ⟨rfl, rfl⟩
              have hfd : (upd (upd H dd (.frz od (.dT gv))) D (.lst ((ls.take j).map V.int))) dd = some (.frz od (.dT gv)) := by rw [upd_ne (Ne.symm hDd), upd_same]
              by_cases hj : gv.length ≤ j
              · refine .inl ⟨⟨hfd, hj⟩, hfd, ?_⟩
                rw [List.take_of_length_le (by omega)]
                have e : upd (upd (upd H dd (.frz od (.dT gv))) D (.lst (ls.map V.int))) dd (.dT gv) = upd H D (.lst (ls.map V.int)) := by
                  funext b
                  by_cases b1 : b = dd
                  · subst b1; rw [upd_same, upd_ne (Ne.symm hDd), hd]
                  · rw [upd_ne b1]
                    by_cases b2 : b = D
                    · subst b2; rw [upd_same, upd_same]
                    · rw [upd_ne b2, upd_ne b1, upd_ne b2]
                rw [e]
                exact Po.lst h hr hDH (rvs_ints ls)
              · refine .inr ⟨⟨hfd, by omega⟩, fun H'' => H'' = upd (upd H dd (.frz od (.dT gv))) D (.lst ((ls.take (j + 1)).map V.int)), fun H'' e => ⟨gv.length - (j + 1), by omega, e, rfl⟩, ?_⟩
                rintro x H'' ⟨rfl, k, hk⟩
                obtain ⟨l, us, rfl, hl, hls⟩ := l2 j k x hk
                have hld : l ≠ dd := fun z => by subst z; rw [hd] at hl; cases hl
                have hlD : l ≠ D := fun z => by subst z; rw [hDH] at hl; cases hl
                have hvl : v < σ.length := by rw [← hs.1]; exact hv
                refine ⟨?_, ?_⟩
                · show (((σ.set v none).set v _).set v none) = σ.set v none
                  simp
                · unfold tYes
                  simp only [if_true]
                  have HLL : SqL K (upd (upd H dd (.frz od (.dT gv))) D (.lst ((ls.take j).map V.int))) l us := .inl (.inl (by rw [upd_ne hlD, upd_ne hld]; exact hl))
                  refine ⟨_, (by show ((σ.set v none).set v _)[v]? = _; rw [List.getElem?_set_self (by simpa using hvl)]), _, us.length, rfl, (show LenV K (.ref l) _ us.length from Or.inl ⟨us, HLL, rfl⟩), (ls.take j).map V.int, upd_same, ?_, ?_⟩
                  · rw [List.length_map, List.length_take]
                    have := hrv.length
                    omega
                  · rw [List.take_succ, hls]
                    funext b
                    by_cases b2 : b = D
                    · subst b2; rw [upd_same, upd_same]; simp
                    · rw [upd_ne b2, upd_ne b2, upd_ne b2]
            · exact h.elim
          · exact h.elim
        · exact h.elim
      · exact h.elim
    · exact h.elim
  · exact h.elim
end
end Mi
namespace Mi
open PySem L2
section
variable {X : Cx} {Cl : Nat → Addr} {E : XK}
theorem pe_lenName {y : Str} {p p2 pos : Pos} (v : Nat) (hm : X.mg "len" = none) (hv : bootBuiltins "len" = some (.builtin "len")) (hN : X.N[v]? = some y := by rfl) (hvis : Vis X.env.scope y := by first | exact Or.inl rfl | exact Or.inr (Or.inl rfl) | exact Or.inr (Or.inr rfl)) (hd : (y == ("__debug__" : Str)) = false := by decide)
    (hcd : (y == ("__classdict__" : Str)) = false := by decide) (hg : Gl X "len" := by rfl)
    (he : starEach [.Name y p2] X.env = (false, eval (.Name y p2) X.env) :: starEach [] X.env := by rfl) (hpl : (backTo pos (starEach [] X.env)).any (·.1) = false := by rfl) : PE X (.Call (.Name "len" p) [.Name y p2] [] pos) (tCB (rLen X.K) (tCons (tVar v) tNil)) :=
  pe_callB call_len hg hm hv (pa_cons (pe_var hN hvis hd hcd) pa_nil he) (by decide) (by decide) he hpl
theorem je_lenVals {c : Nat} {f self y : Str} {i v : Nat} {elt : Expr} {scope : Scope} {p4 p5 p6 p7 p8 pos : Pos} (hc : X.calm = true) (hN : X.N.Nodup) (hcl : Cls X.K (Cl c)) (hn : NoAttr X.K (Cl c) f) (ok : BlkOk X.N X.env.scope scope [(y, v)])
    (hg : ∀ (s : Shared) (H : Hp) (C : Addr) (cl : List (Str × Addr)) (fp : List Addr), JN (X.blk s H scope (compEnvC scope cl C X.env) fp) (.Name y p4) (.nm v))
    (he : ∀ (s : Shared) (H : Hp) (C : Addr) (cl : List (Str × Addr)) (fp : List Addr), PE (X.blk s H scope (compEnvC scope cl C X.env) fp) elt (tCB (rLen X.K) (tCons (tVar v) tNil)))
    (hself : X.N[i]? = some self := by rfl) (hvis : Vis X.env.scope self := by first | exact Or.inl rfl | exact Or.inr (Or.inl rfl) | exact Or.inr (Or.inr rfl)) (hd : (self == ("__debug__" : Str)) = false := by decide)
    (hcd : (self == ("__classdict__" : Str)) = false := by decide) (hb : attributeBase (.Name self p5) f X.env (eval (.Name self p5) X.env) = eval (.Name self p5) X.env := by rfl)
    (hbase : attributeBase (.Attribute (.Name self p5) f p6) "values" X.env (eval (.Attribute (.Name self p5) f p6) X.env) = eval (.Attribute (.Name self p5) f p6) X.env := by rfl) (hline : (p7.endLine == p8.line) = true := by rfl)
    (hs : ∀ x, foldedSetIterable (.Call (.Attribute (.Attribute (.Name self p5) f p6) "values" p7) [] [] p8) X.env x = pure x := by intro _; rfl) :
    JE X Cl E (.ListComp elt [⟨.Name y p4, .Call (.Attribute (.Attribute (.Name self p5) f p6) "values" p7) [] [] p8, [], 0⟩] scope pos) (mLenVals c f i v) :=
  ⟨_, pe_lock (pe_lc hc hN (pi_valuesT (pe_fld (pe_var hself hvis hd hcd) hb) hbase hline) ok (fun s H C cl fp => (hg s H C cl fp).pg) (fun s H C cl fp => pts_nil) he hs), se_lenVals hcl hn⟩
end
end Mi
/-! The mirror layer, part Q: what several laws' drawing functions share. -/
namespace Mi
open PySem L2
/-- the bag: a number left over, a seed, a place, the last cell, the cells -/
def BagOb (o : Ob) : Prop := ∃ (a b c d : Int) (ns : List Int), o = .lst [.int a, .int b, .int c, .int d, .lst (ns.map W.int)] ∧ 0 ≤ c
def Sm (i : Nat) (st st' : Sto) : Prop := st'.length = st.length ∧ (∀ k : Nat, k ≠ i → st'[k]? = st[k]?) ∧ ∃ o, st'[i]? = some o ∧ BagOb o
theorem Sm.trans {i : Nat} {a b c : Sto} (h : Sm i a b) (k : Sm i b c) : Sm i a c := ⟨k.1.trans h.1, fun j hj => (k.2.1 j hj).trans (h.2.1 j hj), k.2.2⟩
theorem Sm.refl {i : Nat} {st : Sto} {o : Ob} (h : st[i]? = some o) (b : BagOb o) : Sm i st st := ⟨rfl, fun _ _ => rfl, o, h, b⟩
theorem Sm.here {i : Nat} {a b : Sto} (h : Sm i a b) : Sm i b b := ⟨rfl, fun _ _ => rfl, h.2.2⟩
theorem Sm.set {i : Nat} {st : Sto} {o : Ob} (hi : i < st.length) (b : BagOb o) : Sm i st (st.set i o) := ⟨by simp, fun k hk => by rw [List.getElem?_set_ne (Ne.symm hk)], o, by simp [hi], b⟩
theorem Sm.lt {i : Nat} {a b : Sto} (h : Sm i a b) : i < b.length := by obtain ⟨_, _, o, h, _⟩ := h; exact (List.getElem?_eq_some_iff.mp h).1
theorem pick (P : Int → Prop) (vs : List Int) (r : Int) (r0 : 0 ≤ r) (r1 : r < vs.length) (h : ∀ v ∈ vs, P v) : ∃ v, atI (vs.map W.int) r = some (.int v) ∧ P v := by
  have hi : r.toNat < vs.length := by omega
  exact ⟨vs[r.toNat], atI_nn r0 (by simp [hi]), h _ (List.getElem_mem hi)⟩
theorem lg {m : Int} (h0 : 0 < m) (h1 : m < 18446744073709551616) : m.natAbs.log2 < 9000 := by
  have h := (Nat.log2_lt (n := m.natAbs) (k := 64) (by omega)).mpr (by omega)
  omega
end Mi
/-! The mirror layer, part T: rows of a tree over a list of numbers. -/
namespace Mi
open PySem L2
/-- a row's item -/
def gt (row : List Int) (p : Nat) : Int := row.getD p 0
theorem gt_get {row : List Int} {p : Nat} (h : p < row.length) : row[p]? = some (gt row p) := by simp [gt, List.getD, h]
/-- the row above a row -/
def prs (f : Int → Int → Int) (row : List Int) : List Int := (List.range (row.length / 2)).map fun k => f (gt row (2 * k)) (gt row (2 * k + 1))
theorem prs_len (f : Int → Int → Int) (row : List Int) : (prs f row).length = row.length / 2 := by simp [prs]
theorem prs_getD (f : Int → Int → Int) (row : List Int) (k : Nat) (h : k < row.length / 2) : gt (prs f row) k = f (gt row (2 * k)) (gt row (2 * k + 1)) := by
  simp [gt, prs, List.getD, h]
def lev (f : Int → Int → Int) (row : List Int) : Nat → List Int
  | 0 => row
  | k + 1 => prs f (lev f row k)
theorem lev_len (f : Int → Int → Int) (row : List Int) : ∀ k, (lev f row k).length = row.length / 2 ^ k
  | 0 => by simp [lev]
  | k + 1 => by rw [lev, prs_len, lev_len f row k, Nat.div_div_eq_div_mul, Nat.pow_succ]
theorem getD_set_ne {l : List Int} {p q : Nat} {d : Int} (h : p ≠ q) : gt (l.set p d) q = gt l q := by
  simp [gt, List.getD, List.getElem?_set_ne h]
theorem getD_set_self {l : List Int} {p : Nat} {d : Int} (h : p < l.length) : gt (l.set p d) p = d := by
  simp [gt, List.getD, h]
/-- a row in which one place has changed, the rows above it -/
theorem prs_set (f : Int → Int → Int) (row : List Int) (p : Nat) (d : Int) : prs f (row.set p d) = (prs f row).set (p / 2) (f (gt (row.set p d) (2 * (p / 2))) (gt (row.set p d) (2 * (p / 2) + 1))) := by
  refine List.ext_getElem (by simp [prs_len]) fun k h1 h2 => ?_
  have hk : k < row.length / 2 := by simpa [prs_len] using h1
  rw [List.getElem_set]
  by_cases e : p / 2 = k
  · subst e
    simp [prs]
  · rw [if_neg e]
    simp only [prs, List.getElem_map, List.getElem_range]
    rw [getD_set_ne (by omega), getD_set_ne (by omega)]
theorem lev_set (f : Int → Int → Int) (row : List Int) (p : Nat) (d : Int) (hp : p < row.length) : ∀ k, 2 ^ k ∣ row.length → lev f (row.set p d) k = (lev f row k).set (p / 2 ^ k) (gt (lev f (row.set p d) k) (p / 2 ^ k))
  | 0, _ => by
    show row.set p d = row.set (p / 2 ^ 0) (gt (row.set p d) (p / 2 ^ 0))
    rw [Nat.pow_zero, Nat.div_one, getD_set_self hp]
  | k + 1, hd => by
    have hd' : 2 ^ k ∣ row.length := Nat.dvd_trans (Nat.pow_dvd_pow 2 (Nat.le_succ k)) hd
    have ih := lev_set f row p d hp k hd'
    have e2 : p / 2 ^ (k + 1) = p / 2 ^ k / 2 := by rw [Nat.div_div_eq_div_mul, Nat.pow_succ]
    have hl : p / 2 ^ (k + 1) < (prs f (lev f (row.set p d) k)).length := by
      rw [prs_len, lev_len, List.length_set, Nat.div_div_eq_div_mul, ← Nat.pow_succ]
      exact Nat.div_lt_div_of_lt_of_dvd hd hp
    show prs f (lev f (row.set p d) k) = (prs f (lev f row k)).set (p / 2 ^ (k + 1)) (gt (prs f (lev f (row.set p d) k)) (p / 2 ^ (k + 1)))
    have hs := prs_set f (lev f row k) (p / 2 ^ k) (gt (lev f (row.set p d) k) (p / 2 ^ k))
    rw [← ih] at hs
    rw [e2] at hl ⊢
    rw [prs_getD _ _ _ (by rw [prs_len] at hl; exact hl)]
    exact hs
theorem prs_in (f : Int → Int → Int) (P : Int → Prop) (row : List Int) (h : ∀ x y, P x → P y → P (f x y)) (hr : ∀ x ∈ row, P x) : ∀ x ∈ prs f row, P x := by
  intro x hx
  simp only [prs, List.mem_map, List.mem_range] at hx
  obtain ⟨k, hk, rfl⟩ := hx
  have a1 : 2 * k < row.length := by omega
  have a2 : 2 * k + 1 < row.length := by omega
  have e1 : gt row (2 * k) = row[2 * k] := by simp [gt, List.getD, a1]
  have e2 : gt row (2 * k + 1) = row[2 * k + 1] := by simp [gt, List.getD, a2]
  rw [e1, e2]
  exact h _ _ (hr _ (List.getElem_mem a1)) (hr _ (List.getElem_mem a2))
theorem lev_in (f : Int → Int → Int) (P : Int → Prop) (row : List Int) (h : ∀ x y, P x → P y → P (f x y)) (hr : ∀ x ∈ row, P x) : ∀ k, ∀ x ∈ lev f row k, P x
  | 0 => hr
  | k + 1 => prs_in f P _ h (lev_in f P row h hr k)
/-! ### rows of numbers compared -/
theorem lay_ints : ∀ ns : List Int, PyData.canLayAll0 (ns.map PyData.int) = true
  | [] => by simp
  | n :: ns => by simp [lay_ints ns]
theorem dep_ints : ∀ ns : List Int, PyData.depthAll (ns.map PyData.int) = 0
  | [] => by simp
  | n :: ns => by simp [dep_ints ns]
theorem eqvA_ints : ∀ ns ms : List Int, PyData.eqvAll (ns.map PyData.int) (ms.map PyData.int) = decide (ns = ms)
  | [], [] => by simp
  | [], m :: ms => by simp
  | n :: ns, [] => by simp
  | n :: ns, m :: ms => by
    rw [List.map_cons, List.map_cons, eqvA_cc, eqv_ii, eqvA_ints ns ms]
    by_cases h1 : n = m <;> by_cases h2 : ns = ms <;> simp [h1, h2]
/-- a comprehension over an object of the store that changes no store -/
theorem lc_cell_at {c n : Nat} {ws : List W} {g : MG} {t : MT} {e : ME} {s : Slo} {st : Sto} (p : W → Bool) (q : W → W) (h0 : st[c]? = some (.lst ws)) (hn : ws.length = n)
    (h : ∀ w ∈ ws, ∃ s2, g w s st = some (s2, st) ∧ t s2 st = .ok (p w) st ∧ (p w = true → e s2 st = .ok (q w) st)) :
    ∀ (k i : Nat) (acc : List W), i + k = ws.length → acc.length + k ≤ sizeLine →
      mLcLoop (.cell c n) g t e s k i acc st = .ok (acc ++ ((ws.drop i).filter p).map q) st
  | 0, i, acc, e, hl => by
    have e' : i = ws.length := by omega
    subst e'
    simp only [mLcLoop, Src.fine, h0, hn, decide_true, if_true]
    rw [← hn, List.drop_length, List.filter_nil, List.map_nil, List.append_nil]
  | k + 1, i, acc, e, hl => by
    have hi : i < ws.length := by omega
    obtain ⟨s2, hg, ht, he⟩ := h ws[i] (List.getElem_mem hi)
    have hd := List.drop_eq_getElem_cons hi
    simp only [mLcLoop, Src.fine, Src.at, h0, hn, decide_true, if_true, List.getElem?_eq_getElem hi, hg, ht]
    cases hp : p ws[i] with
    | true =>
      simp only [he hp]
      rw [if_pos (by omega), lc_cell_at p q h0 hn h k (i + 1) _ (by omega) (by simp; omega)]
      rw [hd, List.filter_cons, hp]
      simp only [if_true, List.map_cons, List.append_assoc, List.singleton_append]
    | false =>
      simp only []
      rw [lc_cell_at p q h0 hn h k (i + 1) _ (by omega) (by omega), hd, List.filter_cons, hp]
      simp only [Bool.false_eq_true, if_false]
theorem filter_yes {α : Type} (l : List α) : (l.filter fun _ => true) = l := List.filter_eq_self.mpr fun _ _ => rfl
@[simp high] theorem aT (S T : Sto) (k : Nat) : (S ++ T)[S.length + k]? = T[k]? := by rw [List.getElem?_append_right (by omega)]; congr 1; omega
@[simp high] theorem a0 (S T : Sto) : (S ++ T)[S.length]? = T[0]? := aT S T 0
@[simp high] theorem sT (S T : Sto) (k : Nat) (x : Ob) : (S ++ T).set (S.length + k) x = S ++ T.set k x := by rw [List.set_append_right _ _ (by omega)]; congr 2; omega
@[simp high] theorem s0 (S T : Sto) (x : Ob) : (S ++ T).set S.length x = S ++ T.set 0 x := sT S T 0 x
end Mi
/-! The mirror layer, part R: reading by `simp`: fields, places, sizes. -/
namespace Mi
open PySem L2
@[simp] theorem beq_lit (a b : String) : (Str.ofString a == Str.ofString b) = decide (a = b) := by
  by_cases h : a = b
  · subst h; simp
  · have h2 : Str.ofString a ≠ Str.ofString b := fun e => h ((ofString_iff a b).mp e)
    simp [h]
@[simp] theorem lk_nil (k : Str) : List.lookup k ([] : Fl) = none := rfl
@[simp] theorem lk_lit (a b : String) (w : W) (r : Fl) : List.lookup (Str.ofString a) ((Str.ofString b, w) :: r) = if a = b then some w else List.lookup (Str.ofString a) r := by
  rw [List.lookup_cons, beq_lit]
  by_cases h : a = b <;> simp [h]
theorem atI_nat {α : Type} (xs : List α) (k : Nat) : atI xs (k : Int) = xs[k]? := by
  by_cases h : k < xs.length
  · rw [List.getElem?_eq_getElem h]
    exact atI_nn (by omega) (by simp [h])
  · have h2 : ixN xs.length (k : Int) = none := by
      simp only [ixN, if_pos (show (0 : Int) ≤ (k : Int) by omega)]
      rw [if_neg (by omega)]
    rw [atI, h2, List.getElem?_eq_none (by omega)]; rfl
@[simp] theorem atI_ofNat {α : Type} (xs : List α) (k : Nat) : atI xs (no_index (OfNat.ofNat k : Int)) = xs[(OfNat.ofNat k : Nat)]? := atI_nat xs k
theorem atI_last {α : Type} (xs : List α) : atI xs (-1) = xs.getLast? := by
  cases xs with
  | nil => rfl
  | cons x xs =>
    have h : ixN (x :: xs).length (-1) = some xs.length := by
      simp only [ixN, List.length_cons]
      rw [if_neg (by omega), if_pos (by omega)]
      congr 1
      omega
    rw [atI, h, List.getLast?_eq_getElem?]
    simp
theorem ixN_nat (n k : Nat) : ixN n (k : Int) = if k < n then some k else none := by
  by_cases h : k < n
  · simp only [ixN, if_pos (show (0 : Int) ≤ (k : Int) by omega), if_pos (show (k : Int) < (n : Int) by omega), if_pos h, Int.toNat_natCast]
  · simp only [ixN, if_pos (show (0 : Int) ≤ (k : Int) by omega), if_neg (show ¬ (k : Int) < (n : Int) by omega), if_neg h]
@[simp] theorem ixN_ofNat (n k : Nat) : ixN n (no_index (OfNat.ofNat k : Int)) = if (OfNat.ofNat k : Nat) < n then some (OfNat.ofNat k : Nat) else none := ixN_nat n k
theorem ixN_last (n : Nat) : ixN n (-1) = if 0 < n then some (n - 1) else none := by
  by_cases h : 0 < n
  · simp only [ixN]
    rw [if_neg (by omega), if_pos (by omega), if_pos h]
    congr 1
    omega
  · simp only [ixN]
    rw [if_neg (by omega), if_neg (by omega), if_neg h]
@[simp] theorem log2_lt {n : Nat} (h : n < 18446744073709551616) : n.log2 < 9000 := by
  by_cases h0 : n = 0
  · subst h0; decide
  · have := (Nat.log2_lt (n := n) (k := 64) h0).mpr (by omega)
    omega
/-! ### the store -/
theorem rd_self {st : Sto} {i : Nat} {o : Ob} (h : (st[i]?).isSome = true) : (st.set i o)[i]? = some o := by
  rw [List.getElem?_set_self]
  by_cases hl : i < st.length
  · exact hl
  · rw [List.getElem?_eq_none (by omega)] at h; cases h
theorem rd_app {st T : Sto} {i : Nat} (h : (st[i]?).isSome = true) : (st ++ T)[i]? = st[i]? := by
  by_cases hl : i < st.length
  · rw [List.getElem?_append_left hl]
  · rw [List.getElem?_eq_none (by omega)] at h; cases h
theorem st_app {st T : Sto} {i : Nat} {o : Ob} (h : (st[i]?).isSome = true) : (st ++ T).set i o = st.set i o ++ T := by
  by_cases hl : i < st.length
  · rw [List.set_append_left _ _ hl]
  · rw [List.getElem?_eq_none (by omega)] at h; cases h
/-- nothing but the objects at A has changed; new ones may stand behind -/
def Only (A : List Nat) (st st' : Sto) : Prop := st.length ≤ st'.length ∧ ∀ i, i < st.length → i ∉ A → st'[i]? = st[i]?
theorem Only.refl (A : List Nat) (st : Sto) : Only A st st := ⟨Nat.le_refl _, fun _ _ _ => rfl⟩
theorem Only.trans {A B : List Nat} {s t u : Sto} (h : Only A s t) (k : Only B t u) (hb : ∀ i ∈ B, i < s.length → i ∈ A) : Only A s u :=
  ⟨Nat.le_trans h.1 k.1, fun i hi ha => (k.2 i (Nat.lt_of_lt_of_le hi h.1) fun z => ha (hb i z hi)).trans (h.2 i hi ha)⟩
theorem Only.mono {A B : List Nat} {s t : Sto} (h : Only A s t) (hb : ∀ i ∈ A, i < s.length → i ∈ B) : Only B s t := ⟨h.1, fun i hi n => h.2 i hi fun z => n (hb i z hi)⟩
theorem Only.rd {A : List Nat} {s t : Sto} (h : Only A s t) {i : Nat} {o : Ob} (e : s[i]? = some o) (n : i ∉ A) : t[i]? = some o := (h.2 i (List.getElem?_eq_some_iff.mp e).1 n).trans e
theorem Only.app (A : List Nat) (s T : Sto) : Only A s (s ++ T) := ⟨by simp, fun i hi _ => List.getElem?_append_left hi⟩
theorem Only.set {A : List Nat} {s : Sto} {i : Nat} {o : Ob} (h : i ∈ A) : Only A s (s.set i o) := ⟨by simp, fun j hj n => List.getElem?_set_ne fun e => n (by rw [← e]; exact h)⟩
theorem Sm.only {i : Nat} {a b : Sto} (h : Sm i a b) : Only [i] a b := ⟨by rw [h.1]; exact Nat.le_refl _, fun k _ n => h.2.1 k fun e => n (by simp [e])⟩
/-! ### walks over a written range -/
theorem mLc_rng1 {a : MA} {k : Int} {n : NT} {t : MT} {e : ME} {vs : List Nat} {s : Slo} {st st1 : Sto} (ha : a s st = .ok [.int k] st1) (h0 : 0 ≤ k) (h1 : k < 4611686018427387904) :
    mLc (mIRng1 a) n t e vs s st = (mLcLoop (.vals (rngW 0 k.toNat)) (NT.m n) t e (wipeW s vs) k.toNat 0 [] st1).bind fun ws st2 => .ok (.lst ws) st2 := by
  simp [ha]
  rw [if_pos (by omega)]
  simp
theorem rng1_ok {a : MA} {k : Int} {s : Slo} {st st1 : Sto} (ha : a s st = .ok [.int k] st1) (h0 : 0 ≤ k) (h1 : k < 4611686018427387904) : mIRng1 a s st = .ok (.vals (rngW 0 k.toNat)) st1 := by
  simp [ha]
  omega
theorem rng1_nat {a : MA} {k : Nat} {s : Slo} {st st1 : Sto} (ha : a s st = .ok [.int (k : Int)] st1) (h1 : k < 1000000000) : mIRng1 a s st = .ok (.vals (rngW 0 k)) st1 := by
  have h := rng1_ok ha (by omega) (by omega)
  rwa [Int.toNat_natCast] at h
theorem mFor_vals {it : MI} {g : MG} {b : MS} {s : Slo} {st st1 : Sto} {ws : List W} {n : Nat} {o : SO} (h : it s st = .ok (.vals ws) st1) (hn : ws.length = n) (k : mLoop (.vals ws) g b n 0 s st1 = o) : mFor it g b s st = o := by
  subst hn
  simp only [mFor, h, Out.run, Src.len_vals, k]
theorem mFor_rng1 {a : MA} {k : Int} {g : MG} {b : MS} {s : Slo} {st st1 : Sto} (ha : a s st = .ok [.int k] st1) (h0 : 0 ≤ k) (h1 : k < 4611686018427387904) :
    mFor (mIRng1 a) g b s st = mLoop (.vals (rngW 0 k.toNat)) g b k.toNat 0 s st1 := by
  simp [ha]
  rw [if_pos (by omega)]
  simp
end Mi
namespace Mi
open PySem L2
theorem mLc_of {it : MI} {n : NT} {t : MT} {e : ME} {vs : List Nat} {s : Slo} {st st1 : Sto} {ws : List W} (hi : it s st = .ok (.vals ws) st1) (hl : ws.length ≤ 1000000) (p : W → Bool) (q : W → W)
    (h : ∀ w ∈ ws, ∃ s2, NT.m n w (wipeW s vs) st1 = some (s2, st1) ∧ t s2 st1 = .ok (p w) st1 ∧ (p w = true → e s2 st1 = .ok (q w) st1)) : mLc it n t e vs s st = .ok (.lst ((ws.filter p).map q)) st1 := by
  simp only [mLc, hi, Out.bind, Src.len_vals, lc_vals p q (show ws.length ≤ sizeLine by rw [sizeLine_eq]; omega) h]
theorem mem_rng {lo : Int} {n : Nat} {w : W} (h : w ∈ rngW lo n) : ∃ k : Nat, k < n ∧ w = .int (lo + (k : Int)) := by
  simp only [rngW, List.mem_map, List.mem_range] at h
  obtain ⟨k, hk, rfl⟩ := h
  exact ⟨k, hk, rfl⟩
theorem mem_rng0 {n : Nat} {w : W} (h : w ∈ rngW 0 n) : ∃ k : Nat, k < n ∧ w = .int (k : Int) := by
  obtain ⟨k, hk, rfl⟩ := mem_rng h
  exact ⟨k, hk, by rw [Int.zero_add]⟩
/-! ### rows of True -/
theorem toPys_rep (b : Bool) : ∀ n : Nat, toPys (List.replicate n (.bl b)) = some (List.replicate n (.bool b))
  | 0 => rfl
  | n + 1 => by simp [List.replicate_succ, toPys, toPys_rep b n]
theorem lay_rep (b : Bool) : ∀ n : Nat, PyData.canLayAll0 (List.replicate n (.bool b)) = true
  | 0 => by simp
  | n + 1 => by simp [List.replicate_succ, lay_rep b n]
theorem dep_rep (b : Bool) : ∀ n : Nat, PyData.depthAll (List.replicate n (.bool b)) = 0
  | 0 => by simp
  | n + 1 => by simp [List.replicate_succ, dep_rep b n]
theorem isIn_true (st : Sto) (ws : List W) (h : ∀ w ∈ ws, w = .bl true) : isIn (.bl false) (.lst ws) st = some false := by
  rw [List.eq_replicate_of_mem h]
  generalize ws.length = n
  simp [isIn, toPyS, toPy, toPys_rep, lay_rep, dep_rep]
theorem toPy_ints (ns : List Int) : toPy (.tup (ns.map W.int)) = some (.tuple (ns.map PyData.int)) := by simp
/-- two tuples of numbers compared -/
theorem mEq_ints (ns ms : List Int) (st : Sto) : mEq (.tup (ns.map W.int)) (.tup (ms.map W.int)) st = .ok (.bl (decide (ns = ms))) st := by
  simp [lay_ints, dep_ints, eqvA_ints]
theorem mNe_ints (ns ms : List Int) (st : Sto) : mNe (.tup (ns.map W.int)) (.tup (ms.map W.int)) st = .ok (.bl (!decide (ns = ms))) st := by
  simp [lay_ints, dep_ints, eqvA_ints]
/-- a list in which all that is told of is one thing -/
theorem one_le {α : Type} (p : α → Bool) (a : α) : ∀ l : List α, l.Nodup → (∀ x ∈ l, p x = true → x = a) → (l.filter p).length ≤ 1
  | [], _, _ => by simp
  | x :: l, hn, h => by
    obtain ⟨h1, h2⟩ := List.nodup_cons.mp hn
    rw [List.filter_cons]
    split
    · rename_i hp
      have e := h x (by simp) hp
      subst e
      have : l.filter p = [] := List.filter_eq_nil_iff.mpr fun y hy hp => h1 (by rw [← h y (by simp [hy]) hp]; exact hy)
      rw [this]; simp
    · exact one_le p a l h2 fun y hy => h y (by simp [hy])
end Mi
namespace Mi
open PySem L2
theorem mEq_ii (i j : Int) (st : Sto) : mEq (.int i) (.int j) st = .ok (.bl (decide (i = j))) st := by simp
theorem mNe_ii (i j : Int) (st : Sto) : mNe (.int i) (.int j) st = .ok (.bl (!decide (i = j))) st := by simp
/-- is a number among numbers (a list as a value) -/
theorem isIn_ints (x : Int) (ns : List Int) (st : Sto) : isIn (.int x) (.lst (ns.map W.int)) st = some (decide (x ∈ ns)) := by
  have h : (ns.map PyData.int).any (fun z => PyData.eqv z (.int x)) = decide (x ∈ ns) := by
    induction ns with
    | nil => simp
    | cons n ns ih =>
      rw [List.map_cons, List.any_cons, ih, eqv_ii]
      by_cases h1 : x = n <;> by_cases h2 : x ∈ ns <;> simp [h1, h2, eq_comm]
  simp [isIn, lay_ints, dep_ints, h]
theorem mIn_ints (x : Int) (ns : List Int) (st : Sto) : mIn (.int x) (.lst (ns.map W.int)) st = .ok (.bl (decide (x ∈ ns))) st := by
  simp only [mIn, isIn_ints]
theorem mNotIn_ints (x : Int) (ns : List Int) (st : Sto) : mNotIn (.int x) (.lst (ns.map W.int)) st = .ok (.bl (!decide (x ∈ ns))) st := by
  simp only [mNotIn, isIn_ints]
theorem mEq_lints (ns ms : List Int) (st : Sto) : mEq (.lst (ns.map W.int)) (.lst (ms.map W.int)) st = .ok (.bl (decide (ns = ms))) st := by
  simp [lay_ints, dep_ints, eqvA_ints]
theorem mNe_lints (ns ms : List Int) (st : Sto) : mNe (.lst (ns.map W.int)) (.lst (ms.map W.int)) st = .ok (.bl (!decide (ns = ms))) st := by
  simp [lay_ints, dep_ints, eqvA_ints]
end Mi
namespace Mi
open PySem L2
/-! ### statement by statement -/
theorem seq_nx {a b : MS} {s s1 : Slo} {st st1 : Sto} {o : SO} (h : a s st = .nx s1 st1) (k : b s1 st1 = o) : mSeq a b s st = o := by
  simp only [mSeq, h, SO.then, k]
theorem seq_rt {a b : MS} {s : Slo} {st st1 : Sto} {w : W} (h : a s st = .rt w st1) : mSeq a b s st = .rt w st1 := by
  simp only [mSeq, h, SO.then]
theorem def_rt {n k : Nat} {body : MS} {ws : List W} {st st' : Sto} {w : W} (hl : ws.length = n) (h : body (ws.map some ++ List.replicate k none) st = .rt w st') : mDef n k body ws st = .ok w st' := by
  simp only [mDef, hl, if_true, h]
theorem def_nx {n k : Nat} {body : MS} {ws : List W} {st st' : Sto} {s' : Slo} (hl : ws.length = n) (h : body (ws.map some ++ List.replicate k none) st = .nx s' st') : mDef n k body ws st = .ok .non st' := by
  simp only [mDef, hl, if_true, h]
end Mi
namespace Mi
open PySem L2
theorem mLc_cell {it : MI} {nt : NT} {t : MT} {e : ME} {vs : List Nat} {s : Slo} {st st1 : Sto} {c n : Nat} {ws : List W} (hi : it s st = .ok (.cell c n) st1) (h0 : st1[c]? = some (.lst ws)) (hn : ws.length = n) (hl : n ≤ 1000000) (p : W → Bool) (q : W → W)
    (h : ∀ w ∈ ws, ∃ s2, NT.m nt w (wipeW s vs) st1 = some (s2, st1) ∧ t s2 st1 = .ok (p w) st1 ∧ (p w = true → e s2 st1 = .ok (q w) st1)) : mLc it nt t e vs s st = .ok (.lst ((ws.filter p).map q)) st1 := by
  have hc : (Src.cell c n).len = n := rfl
  have z := lc_cell_at p q h0 hn h n 0 [] (by omega) (by rw [sizeLine_eq]; simp; omega)
  simp only [mLc, hi, Out.bind, hc, z, List.nil_append, List.drop_zero]
end Mi
namespace Mi
open PySem L2
theorem app_lt0 {α : Type} {s t : List α} {i : Nat} {x : α} (h : s[i]? = some x) : (s ++ t)[i]? = some x := by
  rw [List.getElem?_append_left (List.getElem?_eq_some_iff.mp h).1]; exact h
end Mi
/-! The mirror layer, part X: own errors: raise X(), try: one call, except X: suite. -/
namespace Mi
open PySem L2 PyProof.Rows
/-- what the module's top says of an own class of errors without __init__ -/
structure XCls (K : PySem.W.Frag) (mg : Str → Option Value) (x : Str) (C : Addr) : Prop where
  g : mg x = some (.ref C)
  x : PySem.W.excIn K C [.type "ValueError", .type "Exception", .type "BaseException", .type "object"] "ValueError.__new__" = true
  k : PySem.W.keepIn K (.ref C) = true
  b : PySem.W.subIn K (.ref C) (.type "BaseException") = some true
  t : PySem.W.typeIn K (.ref C) = some (.type "type")
/-- X() -/
theorem pmk_own0 {X : Cx} {C : Addr} {x : Str} {p pos : Pos} (T : XCls X.K X.mg x C) (hg : Gl X x) (hdb : (x == ("__debug__" : Str)) = false := by decide) : PMk X (.Call (.Name x p) [] [] pos) (fun _ H Q => Q (.ref C) none H) := by
  intro pins s σ H Q I h
  refine wpAny_Call_Name_kw (ld_glob I hg T.g ?_ hdb)
  refine PySem.W.callWith_K0 I.kIn T.k ?_
  obtain ⟨bm, N, nm, qn, bs, hdct, sn, sub, ab, col, dd, k0, k1, k2, k3, k5, mN, hC, hN, hni, T2⟩ := exc_obj I.kIn T.x
  refine wpAny_call_exc_subT PySem.F.excBase_ValueError T2 hC hN hni (fun h' e hm => ?_) (Nat.zero_le _)
  exact mk_of I hm (raises_own T.b T.t) h (I.hok.gone hm.new)
@[simp] def mRaise (c : Nat) : MS := fun _ st => .exc c [] st
theorem js_raise0 {X : Cx} {Cl : Nat → Addr} {E : XK} {c : Nat} {x : Str} {p pos pos' : Pos} (T : XCls X.K X.mg x (Cl c)) (tk : Takes X (fun cls d _ H => E cls d H)) (hc : X.calm = true := by rfl) (hg : Gl X x := by rfl) (hdb : (x == ("__debug__" : Str)) = false := by decide) :
    JS X Cl E (.Raise (some (.Call (.Name x p) [] [] pos)) none pos') (mRaise c) :=
  ⟨_, ps_raise hc tk (pmk_own0 T hg hdb), fun β H σ s st D hr hs h => h β H none (Ext.refl _ β H) hr (.inl ⟨rfl, rfl⟩)⟩
/-! ### a call in a try's body -/
structure JC (X : Cx) (Cl : Nat → Addr) (W : WX) (e : Expr) (m : ME) : Prop where
  ex : ∃ t, PE X e t ∧ ∀ β H σ s st Q, HR X.K Cl β H st → SR X.K β H s σ → Po X.K Cl (WE W σ) β H Q (m s st) → t σ H Q
@[simp] def mCallX (n : Nat) (m : MF) (a : MA) : ME := fun s st => match a s st with
  | .ok ws st1 => if ws.length = n then m ws st1 else .stuck
  | _ => .stuck
theorem jc_call {X : Cx} {Cl : Nat → Addr} {W : WX} {k n f : Nat} {fd : FuncData} {ps : List Str} {m : MF} {x : Str} {e : Expr} {es : List Expr} {mr : MA} {p pos : Pos} (F : FnOk X.prog X.w X.K X.mg X.base (L2.CX X.prog X.w) k f fd ps (spM X.K Cl n m)) (tk : Takes X W) (hr : Room k X.A) (hm : X.mg x = some (.ref f)) (hk : PySem.W.keepIn X.K (.ref f) = true) (hb : Binds X.K fd ps [])
    (ha : JA X Cl E0 (e :: es) mr) (hg : Gl X x := by rfl) (hdb : (x == ("__debug__" : Str)) = false := by decide) (he : starEach (e :: es) X.env = (false, eval e X.env) :: starEach es X.env := by rfl) (hpl : (backTo pos (starEach es X.env)).any (·.1) = false := by rfl) :
    JC X Cl W (.Call (.Name x p) (e :: es) [] pos) (mCallX n m mr) := by
  obtain ⟨t, pr, q⟩ := ha.ex
  refine ⟨_, pe_callS F hr hg hm hk hb (fun σ => passAt tk σ) pr hdb he hpl, fun β H σ s st Q hr hs h => ?_⟩
  refine q β H σ s st _ hr hs ?_
  simp only [mCallX] at h
  cases ei : mr s st with
  | stuck => rw [ei] at h; exact h
  | exc c fs st1 => rw [ei] at h; exact h.elim
  | ok ws st1 =>
    rw [ei] at h
    intro β1 H1 vs e1 hr1 rv
    simp only at h
    split at h
    · rename_i hn
      exact ⟨by rw [← rv.length]; exact hn, β1, ws, st1, hr1, rv, PoG.ext e1 h⟩
    · exact h.elim
/-- the reading of a try's body, a single statement -/
def tBody (K : PySem.W.Frag) (Cl : Nat → Addr) (m : MS) (W : WX) : TS := fun D σ H => ∃ β s st, HR K Cl β H st ∧ SR K β H s σ ∧ PoS K Cl (WE W σ) D β H (m s st)
structure JB (X : Cx) (Cl : Nat → Addr) (W : WX) (es : List Stmt) (m : MS) : Prop where
  ps : PSs X es (tBody X.K Cl m W)
theorem pss_imp {X : Cx} {es : List Stmt} {t u : TS} (h : PSs X es t) (k : ∀ D σ H, u D σ H → t D σ H) : PSs X es u := ⟨fun pins s σ H D I q => h.run pins s σ H D I (k D σ H q)⟩
section
variable {X : Cx} {Cl : Nat → Addr} {W : WX} {e : Expr} {m : ME} {pos : Pos}
theorem jb_ret (h : JC X Cl W e m) : JB X Cl W [.Return (some e) pos] (mRet m) := by
  obtain ⟨t, p, q⟩ := h.ex
  refine ⟨pss_imp (pss_one (ps_ret p)) fun D σ H ⟨β, s, st, hr, hs, h⟩ => q β H σ s st _ hr hs ?_⟩
  exact h.run fun w st1 β1 H1 v _ e1 hr1 rv h1 => h1 β1 H1 v (Ext.refl _ _ _) hr1 rv
theorem jb_expr (h : JC X Cl W e m) (hsw : swapsWith e none pos.line X.env = pure false := by rfl) : JB X Cl W [.Expr e pos] (mDrop m) := by
  obtain ⟨t, p, q⟩ := h.ex
  refine ⟨pss_imp (pss_one (ps_expr p hsw)) fun D σ H ⟨β, s, st, hr, hs, h⟩ => q β H σ s st _ hr hs ?_⟩
  exact h.run fun w st1 β1 H1 v _ e1 hr1 rv h1 => PoS.val h1 hr1 (hs.ext e1)
theorem jb_set (i : Nat) {x : Str} {pos' : Pos} (hN : X.N.Nodup) (h : JC X Cl W e m) (hi : X.N[i]? = some x := by rfl) (hx : Loc X.env.scope x := by first | exact .inl rfl | exact .inr rfl) (hsw : swapsWith e (some (.Name x pos')) pos.line X.env = pure false := by rfl) (hf : X.fn x = true ∨ X.env.scope.names.lookup x = some .local := by first | exact .inl rfl | exact .inr rfl) :
    JB X Cl W [.Assign [.Name x pos'] e pos] (mAsg m (mGN i)) := by
  obtain ⟨t, p, q⟩ := h.ex
  refine ⟨pss_imp (pss_one (ps_set hN hi hx p hsw hf)) fun D σ H ⟨β, s, st, hr, hs, h⟩ => q β H σ s st _ hr hs ?_⟩
  exact h.run fun w st1 β1 H1 v _ e1 hr1 rv h1 => PoS.val h1 hr1 ((hs.ext e1).set rv)
end
/-! ### try: one call / except X: suite -/
/-- which errors a clause takes -/
def tabN : Nat → Option Bool := fun _ => none
def tabC (c : Nat) (b : Bool) (r : Nat → Option Bool) : Nat → Option Bool := fun n => if n = c then some b else r n
theorem tabN_ok {K : PySem.W.Frag} {Cl : Nat → Addr} {hc : Nat} : ∀ c b, tabN c = some b → PySem.W.exmOne K (.ref (Cl c)) (.ref (Cl hc)) = some b := fun c b h => by cases h
theorem tabC_ok {K : PySem.W.Frag} {Cl : Nat → Addr} {hc c0 : Nat} {b0 : Bool} {r : Nat → Option Bool} (h0 : PySem.W.exmOne K (.ref (Cl c0)) (.ref (Cl hc)) = some b0) (hr : ∀ c b, r c = some b → PySem.W.exmOne K (.ref (Cl c)) (.ref (Cl hc)) = some b) : ∀ c b, tabC c0 b0 r c = some b → PySem.W.exmOne K (.ref (Cl c)) (.ref (Cl hc)) = some b := fun c b h => by
  unfold tabC at h
  split at h
  · rename_i e
    subst e
    cases h
    exact h0
  · exact hr c b h
/-- a suite that raises is not served -/
@[simp] def calmS : SO → SO
  | .exc _ _ _ => .stuck
  | o => o
@[simp] def mTry1 (body : MS) (sub : Nat → Option Bool) (suite : MS) : MS := fun s st => match body s st with
  | .exc c fs st1 => match sub c with
    | some true => calmS (suite s st1)
    | some false => .exc c fs st1
    | none => .stuck
  | o => o
theorem js_try1 {X : Cx} {Cl : Nat → Addr} {E : XK} {hc : Nat} {x : Str} {body suite : List Stmt} {b₀ : Stmt} {np pos pos' : Pos} {mb ms : MS} {sub : Nat → Option Bool} (hm : X.mg x = some (.ref (Cl hc))) (tk : Takes X (fun cls d _ H => E cls d H))
    (hb : ∀ (W : WX) (pn : List (Addr × Obj)) (xe : Value → Shared → Prop), Takes (X.tr pn xe) W → JB (X.tr pn xe) Cl W body mb)
    (hsu : ∀ (a : Addr) (oe : Obj) (pn : List (Addr × Obj)), JSs (X.suite a ((a, oe) :: pn)) Cl E0 (b₀ :: suite) ms)
    (hsub : ∀ c b, sub c = some b → PySem.W.exmOne X.K (.ref (Cl c)) (.ref (Cl hc)) = some b)
    (hs : X.stack = X.env :: X.outer := by rfl) (hf : X.env.frame = some X.env.locals := by rfl) (hg : Gl X x := by rfl) (hdb : (x == ("__debug__" : Str)) = false := by decide) :
    JS X Cl E (.Try body [.ExceptHandler (some (.Name x np)) none (b₀ :: suite) pos'] [] [] pos) (mTry1 mb sub ms) := by
  refine ⟨_, ps_try_only (tb := fun W => tBody X.K Cl mb W) (ts := fun _ _ _ D σ H => ∃ β s st, HR X.K Cl β H st ∧ SR X.K β H s σ ∧ PoS X.K Cl E0 D β H (ms s st)) hs hf ⟨hg, hdb, .inl hm⟩ tk (fun W pn xe t _ => (hb W pn xe t).ps) (fun a oe cls d pn _ _ => ?_), fun β H σ s st D hr hs h => ⟨β, s, st, hr, hs, ?_⟩⟩
  · obtain ⟨t, p, q⟩ := (hsu a oe pn).ex
    exact pss_imp p fun D σ H ⟨β, s, st, hr, hs, h⟩ => q β H σ s st D hr hs h
  · simp only [mTry1] at h
    cases ei : mb s st with
    | exc c fs st1 =>
      rw [ei] at h
      simp only at h
      intro β1 H1 d e1 hr1 rx
      cases es : sub c with
      | none => rw [es] at h; exact h.elim
      | some b =>
        rw [es] at h
        refine ⟨b, hsub c b es, fun hb a ha => ?_, fun hb => ?_⟩
        · subst hb
          have h2 := PoS.ext e1 h
          refine ⟨β1, s, st1, hr1, hs.ext e1, ?_⟩
          simp only at h2
          cases eo : ms s st1 with
          | exc c2 fs2 st2 => rw [eo] at h2; exact h2.elim
          | nx s2 st2 => rw [eo] at h2; exact h2
          | rt w st2 => rw [eo] at h2; exact h2
          | bk s2 st2 => rw [eo] at h2; exact h2
          | ct s2 st2 => rw [eo] at h2; exact h2
          | stuck => rw [eo] at h2; exact h2
        · subst hb
          exact h β1 H1 d e1 hr1 rx
    | nx s1 st1 => rw [ei] at h; exact h
    | rt w st1 => rw [ei] at h; exact h
    | bk s1 st1 => rw [ei] at h; exact h
    | ct s1 st1 => rw [ei] at h; exact h
    | stuck => rw [ei] at h; exact h
/-! ### statement by statement -/
theorem defX_rt {n k : Nat} {body : MS} {ws : List W} {st st' : Sto} {w : W} (hl : ws.length = n) (h : body (ws.map some ++ List.replicate k none) st = .rt w st') : mDefX n k body ws st = .ok w st' := by
  simp only [mDefX, hl, if_true, h]
theorem defX_nx {n k : Nat} {body : MS} {ws : List W} {st st' : Sto} {s' : Slo} (hl : ws.length = n) (h : body (ws.map some ++ List.replicate k none) st = .nx s' st') : mDefX n k body ws st = .ok .non st' := by
  simp only [mDefX, hl, if_true, h]
theorem defX_exc {n k c : Nat} {fs : Fl} {body : MS} {ws : List W} {st st' : Sto} (hl : ws.length = n) (h : body (ws.map some ++ List.replicate k none) st = .exc c fs st') : mDefX n k body ws st = .exc c fs st' := by
  simp only [mDefX, hl, if_true, h]
theorem seq_exc {a b : MS} {s : Slo} {st st1 : Sto} {c : Nat} {fs : Fl} (h : a s st = .exc c fs st1) : mSeq a b s st = .exc c fs st1 := by
  simp only [mSeq, h, SO.then]
end Mi
/-! The mirror layer, part Y: try with several clauses, named or not; errors with fields of their own; what a suite asks of its error. -/
namespace Mi
open PySem L2
open PyProof.Rows hiding St

/-! ### the clauses of a try -/
/-- an error stands caught in this frame; h3 is the heap at which its clauses are asked -/
structure Got (X : Cx) (pins : List (Addr × Obj)) (σ : St) (H : Hp) (s : Shared) (a : Addr) (cls : Value) (d : Option Addr) (B : Heap) (sI : Shared) (h3 : Heap) : Prop where
  inv : Inv X pins σ H sI
  low : ∀ b o, sI.heap.get? b = some o → b ∉ frs X.stack → B.get? b = some o
  up : sI.heap.UpToSlots h3
  os : s.os = sI.os
  ag : AllBare s.gens
  fl : HandSPX.FlyingZ B (X.env :: X.outer) a (Zc cls d) h3
  na : H a = none
theorem Got.enter {X : Cx} {pins : List (Addr × Obj)} {σ : St} {H : Hp} {s sI : Shared} {a : Addr} {cls : Value} {d : Option Addr} {B h3 h4 : Heap} (G : Got X pins σ H s a cls d B sI h3) (hf : X.env.frame = some X.env.locals)
    (fl : HandSPX.FlyingZ B (X.env :: X.outer) a (Zc cls d) h4) (up : h3.UpToSlots h4) : ∃ oe, Zc cls d oe ∧ (∃ vs, oe.data = .fields vs) ∧ h4.get? a = some oe ∧ Inv X pins σ H { s with heap := h4 } ∧ Inv (X.suite a ((a, oe) :: (X.pn ++ pins))) [] σ H { s with heap := h4 } := by
  have J : Inv X pins σ H { s with heap := h4 } := G.inv.landed G.low fl.1 (G.up.trans up) G.os G.ag
  obtain ⟨oe, vs, he, hz, hd⟩ := fl.there
  have out : a ∉ frs (X.env :: X.outer) := fun hm => by
    obtain ⟨_, o2, g2, nf⟩ := fl.2.2.1.mem hm
    have : oe = o2 := Option.some.inj (he.symm.trans g2)
    exact nf vs (this ▸ hd)
  have n1 : a ≠ X.env.locals := fun z => out (List.mem_filterMap.mpr ⟨X.env, List.mem_cons_self, hf.trans (congrArg some z.symm)⟩)
  have n2 : a ∉ X.fs := fun hm => by
    obtain ⟨e2, m2, q2⟩ := List.mem_filterMap.mp hm
    exact out (List.mem_filterMap.mpr ⟨e2, List.mem_cons_of_mem _ m2, q2⟩)
  exact ⟨oe, hz, ⟨vs, hd⟩, he, J, J.suite he hd G.na n1 n2⟩
/-- what is wished of a suite's ends: its name goes -/
def Ends.drop (D : Ends) : Option Nat → Ends
  | none => D
  | some i => { nx := fun σ' H' => D.nx (σ'.set i none) H', rt := D.rt, bk := fun σ' H' => D.bk (σ'.set i none) H', ct := fun σ' H' => D.ct (σ'.set i none) H' }
def bindE (a : Addr) (σ : St) : Option Nat → St
  | none => σ
  | some i => σ.set i (some (.ref a))
abbrev Cls1 := Value × Option Nat × (Addr → Value → Option Addr → TS)
/-- what the clauses wish of an error, one after the other -/
def wList (K : PySem.W.Frag) (Wout : WX) (D : Ends) : List Cls1 → WX
  | [] => Wout
  | (c, i, ts) :: r => fun cls d σ H => ∃ b, PySem.W.exmOne K cls c = some b ∧ (b = true → ∀ a, H a = none → ts a cls d (Ends.drop D i) (bindE a σ i) H) ∧ (b = false → wList K Wout D r cls d σ H)
inductive Cla (X : Cx) : List ExceptHandler → List Cls1 → Prop
  | nil : Cla X [] []
  | cons0 {x : Str} {c : Value} {ts : Addr → Value → Option Addr → TS} {b₀ : Stmt} {suite : List Stmt} {np pos' : Pos} {hds : List ExceptHandler} {l : List Cls1} (hc : Names X x c)
      (hsu : ∀ (a : Addr) (oe : Obj) (cls : Value) (d : Option Addr) (pn : List (Addr × Obj)), Zc cls d oe → (∃ vs, oe.data = .fields vs) → PSs (X.suite a ((a, oe) :: pn)) (b₀ :: suite) (ts a cls d)) (r : Cla X hds l) :
      Cla X (.ExceptHandler (some (.Name x np)) none (b₀ :: suite) pos' :: hds) ((c, none, ts) :: l)
  | cons1 {x n : Str} {i : Nat} {c : Value} {ts : Addr → Value → Option Addr → TS} {b₀ : Stmt} {suite : List Stmt} {np pos' : Pos} {hds : List ExceptHandler} {l : List Cls1} (hc : Names X x c) (hi : X.N[i]? = some n) (hl : X.env.kindOf n = some .local)
      (hsu : ∀ (a : Addr) (oe : Obj) (cls : Value) (d : Option Addr) (pn : List (Addr × Obj)), Zc cls d oe → (∃ vs, oe.data = .fields vs) → PSs (X.suite a ((a, oe) :: pn)) (b₀ :: suite) (ts a cls d)) (r : Cla X hds l) :
      Cla X (.ExceptHandler (some (.Name x np)) (some n) (b₀ :: suite) pos' :: hds) ((c, some i, ts) :: l)
section
variable {X : Cx} {pins : List (Addr × Obj)} {σ : St} {H : Hp} {s sI : Shared} {a : Addr} {cls : Value} {d : Option Addr} {B h3 : Heap} {D : Ends} {Wout : WX}
/-- a clause's class is looked up and asked -/
theorem Got.asks (G : Got X pins σ H s a cls d B sI h3) (hf : X.env.frame = some X.env.locals) {x : Str} {c : Value} {np : Pos} {b : Bool} (hc : Names X x c) (hb : PySem.W.exmOne X.K cls c = some b) {Q : Bool → Shared → Prop} {E : Value → Shared → Prop}
    (hq : Q b { s with heap := h3 }) : wpAny (model X.prog X.w) (X.A.mark (some (.ref a))) (do let v ← eval (.Name x np) X.env; excMatches (.ref a) v) Q E { s with heap := h3 } := by
  obtain ⟨oe, hz, hd, he, J, S⟩ := G.enter hf G.fl (fun b o e n => ⟨o.slots, e⟩)
  have ty : PySem.W.Looks (model X.prog X.w) h3 (typeOf (.ref a)) cls := fun A Q E s2 keep k => wpAny_typeOf_ref (keep _ _ he) (by rw [hz.1]; exact k)
  have look := PySem.W.exm_one (M := model X.prog X.w) J.kIn ty hb
  refine wpAny_bind ?_
  obtain ⟨hg, hdbg, hm | ⟨hm, hv, hnn⟩⟩ := hc
  · exact ld_glob (X := X.suite a ((a, oe) :: (X.pn ++ pins))) S hg hm (look.here hq) hdbg
  · exact ld_blt (X := X.suite a ((a, oe) :: (X.pn ++ pins))) S hg hm hv (look.here hq) hnn hdbg
theorem Got.asks' (G : Got X pins σ H s a cls d B sI h3) (hf : X.env.frame = some X.env.locals) {x : Str} {c : Value} {np : Pos} (hc : Names X x c) {Q : Value → Shared → Prop} {E : Value → Shared → Prop} (hq : Q c { s with heap := h3 }) :
    wpAny (model X.prog X.w) (X.A.mark (some (.ref a))) (eval (.Name x np) X.env) Q E { s with heap := h3 } := by
  obtain ⟨oe, hz, hd, he, J, S⟩ := G.enter hf G.fl (fun b o e n => ⟨o.slots, e⟩)
  obtain ⟨hg, hdbg, hm | ⟨hm, hv, hnn⟩⟩ := hc
  · exact ld_glob (X := X.suite a ((a, oe) :: (X.pn ++ pins))) S hg hm hq hdbg
  · exact ld_blt (X := X.suite a ((a, oe) :: (X.pn ++ pins))) S hg hm hv hq hnn hdbg
theorem Got.look (G : Got X pins σ H s a cls d B sI h3) (hf : X.env.frame = some X.env.locals) {c : Value} {b : Bool} (hb : PySem.W.exmOne X.K cls c = some b) : PySem.W.Looks (model X.prog X.w) h3 (excMatches (.ref a) c) b := by
  obtain ⟨oe, hz, hd, he, J, S⟩ := G.enter hf G.fl (fun b o e n => ⟨o.slots, e⟩)
  exact PySem.W.exm_one (M := model X.prog X.w) J.kIn (fun A Q E s2 keep k => wpAny_typeOf_ref (keep _ _ he) (by rw [hz.1]; exact k)) hb
/-- no clause is left: the error flies on -/
theorem Got.none_left (G : Got X pins σ H s a cls d B sI h3) (hs : X.stack = X.env :: X.outer) (hf : X.env.frame = some X.env.locals) (tk : Takes X Wout) (w : Wout cls d σ H) :
    wpAny (model X.prog X.w) X.A (handleBy (.ref a) X.env []) (SP X pins D) X.xe { s with heap := h3 } := by
  refine wpAny_handleBy_nil ?_
  obtain ⟨-, -, -, oe, vs, T, oT, ts, he, -, hd, h1, -⟩ := id G.fl
  have off : wpAny (model X.prog X.w) X.A (setFlight (.ref a) X.env.frame) (fun _ s4 => wpAny (model X.prog X.w) X.A (throw (.ref a) : Sem Flow) (SP X pins D) X.xe s4) X.xe { s with heap := h3 } := by
    rw [hf]
    exact HandSPX.setFlight_upZ G.fl fun h4 held up4 => wpAny_throw (tk _ _ ⟨a, B, sI, pins, σ, H, cls, d, rfl, G.inv, G.low, G.up.trans up4, .inr (.inr (hs ▸ held)), G.na, G.os, G.ag, w⟩)
  unfold PySem.passOn
  refine wpAny_bind (wpAny_field he hd h1 ?_)
  rw [if_neg (by simp)]
  first
    | exact wpAny_bind (wpAny_pure (wpAny_bind off))
    | exact wpAny_bind off
theorem Got.run (G : Got X pins σ H s a cls d B sI h3) (hs : X.stack = X.env :: X.outer) (hf : X.env.frame = some X.env.locals) (hN : X.N.Nodup) (tk : Takes X Wout) {hds : List ExceptHandler} {l : List Cls1} (hk : Cla X hds l) (w : wList X.K Wout D l cls d σ H) :
    wpAny (model X.prog X.w) X.A (handleBy (.ref a) X.env hds) (SP X pins D) X.xe { s with heap := h3 } := by
  induction hk with
  | nil => exact G.none_left hs hf tk w
  | cons0 hc hsu r ih =>
    obtain ⟨b, hb, yes, no⟩ := w
    refine wpAny_handleBy_cons (codeAny_handlers_test ?_) (fun q => nomatch q)
    refine G.asks' hf hc ((G.look hf hb).here ?_)
    cases b with
    | false => exact ih (no rfl)
    | true =>
      refine codeAny_handlers_suite (HandSPX.lands_againZ G.fl fun h4 fl4 up4 => ?_)
      obtain ⟨oe, hz, hd, -, J, S⟩ := G.enter hf fl4 up4
      refine wpAny_mono ((hsu a oe cls d (X.pn ++ pins) hz hd).run [] _ _ H D S (yes rfl a G.na)) (fun f s6 e6 => ?_) (fun _ _ z => z.elim)
      cases f with
      | ret u => obtain ⟨v, σ6, H6, I6, r6, q6⟩ := e6; exact ⟨v, σ6, H6, I6.unsuite G.inv.ok, r6, q6⟩
      | _ => obtain ⟨σ6, H6, I6, q6⟩ := e6; exact ⟨σ6, H6, I6.unsuite G.inv.ok, q6⟩
  | @cons1 x n i c ts b₀ suite np pos' hds2 l2 hc hi hl hsu r ih =>
    obtain ⟨b, hb, yes, no⟩ := w
    refine wpAny_handleBy_cons (codeAny_handlers_test ?_) (fun q => nomatch q)
    refine G.asks' hf hc ((G.look hf hb).here ?_)
    cases b with
    | false => exact ih (no rfl)
    | true =>
      refine codeAny_handlers_suite_as (HandSPX.lands_againZ G.fl fun h4 fl4 up4 => ?_)
      obtain ⟨oe, hz, hd, -, J, S⟩ := G.enter hf fl4 up4
      refine store_ok (X := X.suite a ((a, oe) :: (X.pn ++ pins))) (v := .ref a) S hN hi (.inl hl) rfl (fun s5 S5 => ?_) (.inr hl)
      refine wpAny_mono ((hsu a oe cls d (X.pn ++ pins) hz hd).run [] _ _ H _ S5 (yes rfl a G.na)) (fun f s6 e6 => ?_) (fun _ _ z => z.elim)
      have gone : ∀ {σ6 : St} {H6 : Hp} {Q : Shared → Prop}, Inv (X.suite a ((a, oe) :: (X.pn ++ pins))) [] σ6 H6 s6 → (∀ s7, Inv X pins (σ6.set i none) H6 s7 → Q s7) →
          wpAny (model X.prog X.w) X.A (do bindName X.env n .none; unbindBehindTheSuite X.env n pos') (fun _ s7 => Q s7) X.xe s6 := fun I6 k => gone_ok (I6.unsuite G.inv.ok) hN hi hl k
      cases f with
      | ret u => obtain ⟨v, σ6, H6, I6, r6, q6⟩ := e6; exact gone I6 fun s7 J7 => ⟨v, _, _, J7, r6, q6⟩
      | next => obtain ⟨σ6, H6, I6, q6⟩ := e6; exact gone I6 fun s7 J7 => ⟨_, _, J7, q6⟩
      | brk => obtain ⟨σ6, H6, I6, q6⟩ := e6; exact gone I6 fun s7 J7 => ⟨_, _, J7, q6⟩
      | cont => obtain ⟨σ6, H6, I6, q6⟩ := e6; exact gone I6 fun s7 J7 => ⟨_, _, J7, q6⟩
end
theorem ps_tryC {X : Cx} {body : List Stmt} {h₀ : ExceptHandler} {hds : List ExceptHandler} {l : List Cls1} {pos : Pos} {tb : WX → TS} {Wout : WX} (hs : X.stack = X.env :: X.outer) (hf : X.env.frame = some X.env.locals) (hN : X.N.Nodup) (tk : Takes X Wout)
    (hb : ∀ (W : WX) (pn : List (Addr × Obj)) (xe : Value → Shared → Prop), Takes (X.tr pn xe) W → PassesOwn (model X.prog X.w) X.A X.env xe → PSs (X.tr pn xe) body (tb W))
    (hh : Cla X (h₀ :: hds) l) : PS X (.Try body (h₀ :: hds) [] [] pos) (fun D σ H => tb (wList X.K Wout D l) D σ H) := by
  refine ⟨fun pins s σ H D I h => wpAny_Try_except ?_⟩
  have ok := I.ok
  have hfr : X.A.frames = some (X.env :: X.outer) := ok.frames.trans (congrArg some hs)
  have run := (hb (wList X.K Wout D l) (X.pn ++ pins) (fun e s₁ => wpAny (model X.prog X.w) X.A (noteFrame e X.env) (fun _ s₂ => wpAny (model X.prog X.w) X.A (setFlight e none) (fun _ s₃ =>
    wpAny (model X.prog X.w) X.A (handleBy e X.env (h₀ :: hds)) (SP X pins D) X.xe s₃) X.xe s₂) X.xe s₁) (fun u s' xx => ?_) PassesOwn.looking).run [] s σ H D (I.toTry _) h
  · refine wpAny_mono run (fun f s1 e1 => ?_) (fun e s1 z => z)
    cases f with
    | ret u => obtain ⟨v, σ1, H1, I1, r1, q1⟩ := e1; exact ⟨v, σ1, H1, I1.ofTry ok, r1, q1⟩
    | next => obtain ⟨σ1, H1, I1, q1⟩ := e1; exact wpAny_execs_nil ⟨σ1, H1, I1.ofTry ok, q1⟩
    | brk => obtain ⟨σ1, H1, I1, q1⟩ := e1; exact ⟨σ1, H1, I1.ofTry ok, q1⟩
    | cont => obtain ⟨σ1, H1, I1, q1⟩ := e1; exact ⟨σ1, H1, I1.ofTry ok, q1⟩
  · obtain ⟨a, B, sI, pins2, σ1, H1, cls, d, rfl, I1, low, up, sky, na, os, ag, w⟩ := xx
    have sky2 : Sky B (X.env :: X.outer) a (Zc cls d) X.env.locals s'.heap := hs ▸ sky
    exact Sky.land Zc.steady hfr hf sky2 fun h3 fl3 up3 => Got.run ⟨I1.ofTry ok, low, up.trans up3, os, ag, fl3, na⟩ hs hf hN tk hh w
end Mi
/-! The mirror layer, part Z: named clauses: what a suite asks of its error; errors with fields. -/
namespace Mi
open PySem L2
/-- the error in hand: slot i holds it, its fields are fs -/
def Hand (K : PySem.W.Frag) (β : Bt) (H : Hp) (σ : St) (i : Nat) (a : Addr) (fs : Fl) (d : Option Addr) : Prop :=
  σ[i]? = some (some (.ref a)) ∧ ((fs = [] ∧ d = none) ∨ ∃ dd gs, d = some dd ∧ dd ∈ β.pr ∧ H dd = some (.xd gs) ∧ RF K β H fs gs)
theorem Hand.ext {K : PySem.W.Frag} {β β' : Bt} {H H' : Hp} {σ : St} {i : Nat} {a : Addr} {fs : Fl} {d : Option Addr} (h : Hand K β H σ i a fs d) (e : Ext K β H β' H') : Hand K β' H' σ i a fs d := by
  refine ⟨h.1, h.2.imp (fun x => x) ?_⟩
  rintro ⟨dd, gs, h1, h2, h3, h4⟩
  obtain ⟨q1, q2⟩ := e.prot dd h2 _ h3
  exact ⟨dd, gs, h1, q1, q2, h4.ext e⟩
structure QE (X : Cx) (Cl : Nat → Addr) (i : Nat) (a : Addr) (fs : Fl) (d : Option Addr) (e : Expr) (m : ME) : Prop where
  ex : ∃ t, PE X e t ∧ ∀ β H σ s st Q, HR X.K Cl β H st → SR X.K β H s σ → Hand X.K β H σ i a fs d → Po X.K Cl E0 β H Q (m s st) → t σ H Q
structure QA (X : Cx) (Cl : Nat → Addr) (i : Nat) (a : Addr) (fs : Fl) (d : Option Addr) (es : List Expr) (m : MA) : Prop where
  ex : ∃ t, PA X es t ∧ ∀ β H σ s st Q, HR X.K Cl β H st → SR X.K β H s σ → Hand X.K β H σ i a fs d → PoL X.K Cl E0 β H Q (m s st) → t σ H Q
structure QT (X : Cx) (Cl : Nat → Addr) (i : Nat) (a : Addr) (fs : Fl) (d : Option Addr) (e : Expr) (m : MT) : Prop where
  ex : ∃ t, PT X e t ∧ ∀ β H σ s st Q, HR X.K Cl β H st → SR X.K β H s σ → Hand X.K β H σ i a fs d → PoB X.K Cl E0 β H Q (m s st) → t σ H Q
structure QW (X : Cx) (Cl : Nat → Addr) (i : Nat) (a : Addr) (fs : Fl) (d : Option Addr) (e : Expr) (m : MT) : Prop where
  ex : ∃ t, PW X e t ∧ ∀ β H σ s st Q, HR X.K Cl β H st → SR X.K β H s σ → Hand X.K β H σ i a fs d → PoB X.K Cl E0 β H Q (m s st) → t σ H Q
structure QS (X : Cx) (Cl : Nat → Addr) (i : Nat) (a : Addr) (fs : Fl) (d : Option Addr) (es : List Stmt) (m : MS) : Prop where
  ex : ∃ t, PSs X es t ∧ ∀ β H σ s st D, HR X.K Cl β H st → SR X.K β H s σ → Hand X.K β H σ i a fs d → PoS X.K Cl E0 D β H (m s st) → t D σ H
section
variable {X : Cx} {Cl : Nat → Addr} {i : Nat} {a : Addr} {fs : Fl} {d : Option Addr} {pos : Pos}
theorem qe_of {e : Expr} {m : ME} (h : JE X Cl E0 e m) : QE X Cl i a fs d e m := by
  obtain ⟨t, p, q⟩ := h.ex
  exact ⟨t, p, fun β H σ s st Q hr hs _ h => q β H σ s st Q hr hs h⟩
theorem qe_cmp {x y : Expr} {mx my : ME} {op : CmpOp} {r : R2} {m : M2} (ho : OpR X (compareOp op) r ∧ SOp X.K Cl E0 r m) (hx : QE X Cl i a fs d x mx) (hy : QE X Cl i a fs d y my) (hm : behindInMarks op y = false) : QE X Cl i a fs d (.Compare x [op] [y] pos) (mOp m mx my) := by
  obtain ⟨_, p1, q1⟩ := hx.ex
  obtain ⟨_, p2, q2⟩ := hy.ex
  refine ⟨_, pe_cmpR ho.1 p1 p2 hm, fun β H σ s st Q hr hs hh h => q1 β H σ s st _ hr hs hh (h.bind fun x st1 β1 H1 v _ e1 hr1 rx h1 => q2 β1 H1 σ s st1 _ hr1 (hs.ext e1) (hh.ext e1) (h1.bind fun y st2 β2 H2 u _ e2 hr2 ry h2 => ?_))⟩
  exact ho.2 β2 H2 st2 x y v u Q hr2 (rx.ext e2) ry h2
theorem qe_one {op : BoolOp} {x : Expr} {mx : ME} (h : QE X Cl i a fs d x mx) : QE X Cl i a fs d (.BoolOp op [x] pos) mx := by
  obtain ⟨t, p, q⟩ := h.ex
  exact ⟨t, pe_one p, q⟩
theorem qe_and {x y : Expr} {rest : List Expr} {mx my : ME} (hx : QE X Cl i a fs d x mx) (hy : QE X Cl i a fs d (.BoolOp .And (y :: rest) pos) my) : QE X Cl i a fs d (.BoolOp .And (x :: y :: rest) pos) (mAndV mx my) := by
  obtain ⟨_, p1, q1⟩ := hx.ex
  obtain ⟨_, p2, q2⟩ := hy.ex
  refine ⟨_, pe_andT p1 p2, fun β H σ s st Q hr hs hh h => q1 β H σ s st _ hr hs hh (h.bind fun x st1 β1 H1 v _ e1 hr1 rx h1 => ?_)⟩
  split at h1
  · rename_i e
    exact ⟨true, truth_ok hr1 rx e, by rw [if_pos rfl]; exact q2 β1 H1 σ s st1 Q hr1 (hs.ext e1) (hh.ext e1) h1⟩
  · rename_i e
    exact ⟨false, truth_ok hr1 rx e, by rw [if_neg Bool.false_ne_true]; exact PoG.val h1 hr1 rx⟩
  · exact h1.elim
theorem qa_nil : QA X Cl i a fs d [] mNil := ⟨_, pa_nil, fun β H σ s st Q hr hs _ h => PoG.val h hr .nil⟩
theorem qa_cons {e : Expr} {es : List Expr} {ma : ME} {mr : MA} (ha : QE X Cl i a fs d e ma) (hr : QA X Cl i a fs d es mr) (hs : starEach (e :: es) X.env = (false, eval e X.env) :: starEach es X.env := by rfl) : QA X Cl i a fs d (e :: es) (mCons ma mr) := by
  obtain ⟨_, p1, q1⟩ := ha.ex
  obtain ⟨_, p2, q2⟩ := hr.ex
  refine ⟨_, pa_cons p1 p2 hs, fun β H σ s st Q hr hs hh h => q1 β H σ s st _ hr hs hh (h.bind fun x st1 β1 H1 v _ e1 hr1 rx h1 => q2 β1 H1 σ s st1 _ hr1 (hs.ext e1) (hh.ext e1) (h1.bind fun y st2 β2 H2 u _ e2 hr2 ry h2 => ?_))⟩
  exact PoG.val h2 hr2 (.cons (rx.ext e2) ry)
theorem qe_tup {k : Nat} {es : List Expr} {mr : MA} (h : QA X Cl i a fs d es mr) : QE X Cl i a fs d (.Tuple es k pos) (mTup mr) := by
  obtain ⟨_, p, q⟩ := h.ex
  refine ⟨_, pe_tup p, fun β H σ s st Q hr hs hh h => q β H σ s st _ hr hs hh (h.bind fun x st1 β1 H1 v _ e1 hr1 rx h1 => ?_)⟩
  split at h1
  · rename_i hz
    exact ⟨by rw [← rx.length]; exact hz, fun l hl => Po.tup h1 hr1 hl rx⟩
  · exact h1.elim
theorem qt_tru {e : Expr} {m : ME} (h : QE X Cl i a fs d e m) (he : ∀ whole, isTrue e X.env whole = (do let v ← whole; standAt e.pos; holding [v] (truthy v)) := by intro _; rfl) : QT X Cl i a fs d e (mTru m) := by
  obtain ⟨t, p1, q1⟩ := h.ex
  refine ⟨_, pt_truth p1 he, fun β H σ s st Q hr hs hh hp => q1 β H σ s st _ hr hs hh (hp.bind fun x st1 β1 H1 v _ e1 hr1 rx h1 => ?_)⟩
  split at h1
  · rename_i k e
    exact ⟨k, truth_ok hr1 rx e, PoG.val h1 hr1 rfl⟩
  · exact h1.elim
theorem qt_w {e : Expr} {m : MT} (h : QW X Cl i a fs d e m) : QT X Cl i a fs d e m := by
  obtain ⟨t, p, q⟩ := h.ex
  exact ⟨t, p.pt, q⟩
theorem qw_and1 {e : Expr} {m : MT} (h : QT X Cl i a fs d e m) : QW X Cl i a fs d (.BoolOp .And [e] pos) m := by
  obtain ⟨t, p, q⟩ := h.ex
  exact ⟨t, pw_and1 p, q⟩
theorem qw_and {x y : Expr} {rest : List Expr} {mx my : MT} (ha : QT X Cl i a fs d x mx) (hb : QW X Cl i a fs d (.BoolOp .And (y :: rest) pos) my) : QW X Cl i a fs d (.BoolOp .And (x :: y :: rest) pos) (mTAnd mx my) := by
  obtain ⟨_, p1, q1⟩ := ha.ex
  obtain ⟨_, p2, q2⟩ := hb.ex
  refine ⟨_, pw_and p1 p2, fun β H σ s st Q hr hs hh h => q1 β H σ s st _ hr hs hh (h.bind fun x st1 β1 H1 v _ e1 hr1 rx h1 => ?_)⟩
  cases rx
  cases x with
  | true => rw [if_pos rfl] at h1 ⊢; exact q2 β1 H1 σ s st1 Q hr1 (hs.ext e1) (hh.ext e1) h1
  | false => rw [if_neg Bool.false_ne_true] at h1 ⊢; exact PoG.val h1 hr1 rfl
theorem qs_of {es : List Stmt} {m : MS} (h : JSs X Cl E0 es m) : QS X Cl i a fs d es m := by
  obtain ⟨t, p, q⟩ := h.ex
  exact ⟨t, p, fun β H σ s st D hr hs _ h => q β H σ s st D hr hs h⟩
theorem qs_ret {e : Expr} {m : ME} (h : QE X Cl i a fs d e m) : QS X Cl i a fs d [.Return (some e) pos] (mRet m) := by
  obtain ⟨_, p, q⟩ := h.ex
  refine ⟨_, pss_one (ps_ret p), fun β H σ s st D hr hs hh h => q β H σ s st _ hr hs hh ?_⟩
  exact h.run fun w st1 β1 H1 v _ e1 hr1 rv h1 => h1 β1 H1 v (Ext.refl _ _ _) hr1 rv
/-- if test: suite, and what follows -/
theorem qs_if {c : Expr} {as rest : List Stmt} {mc : MT} {m1 m2 : MS} (hc : QT X Cl i a fs d c mc) (h1 : JSs X Cl E0 as m1) (h2 : JSs X Cl E0 rest m2) : QS X Cl i a fs d (.If c as [] pos :: rest) (mSeq (mIfS mc m1 mSkip) m2) := by
  obtain ⟨_, p, q⟩ := hc.ex
  obtain ⟨_, p1, q1⟩ := h1.ex
  obtain ⟨w2, p2, q2⟩ := h2.ex
  obtain ⟨_, p0, q0⟩ := (jss_nil (X := X) (Cl := Cl) (E := E0)).ex
  refine ⟨_, pss_cons (ps_if p p1 p0) p2, fun β H σ s st D hr hs hh h => ?_⟩
  refine q β H σ s st _ hr hs hh ?_
  simp only [mSeq, mIfS] at h
  cases e : mc s st with
  | stuck => rw [e] at h; exact h.elim
  | exc c fs2 st1 => rw [e] at h; exact h
  | ok k st1 =>
    rw [e] at h
    intro β1 H1 b e1 hr1 eb
    subst eb
    have h' := PoS.ext e1 h
    have thn : ∀ (o : SO) (t1 : TS), (∀ D', PoS X.K Cl E0 D' β1 H1 o → t1 D' σ H1) → PoS X.K Cl E0 D β1 H1 (o.then m2) → t1 { D with nx := w2 D } σ H1 := fun o t1 k1 k2 => k1 _ (by
      cases o with
      | nx s2 st2 => exact fun β2 H2 σ2 e2 hr2 hs2 => q2 β2 H2 σ2 s2 st2 D hr2 hs2 (PoS.ext e2 k2)
      | rt w2 st2 => exact k2
      | bk s2 st2 => exact k2
      | ct s2 st2 => exact k2
      | exc c fs2 st2 => exact k2
      | stuck => exact k2)
    cases k with
    | true =>
      rw [if_pos rfl]
      exact thn (m1 s st1) _ (fun D' z => q1 β1 H1 σ s st1 D' hr1 (hs.ext e1) z) h'
    | false =>
      rw [if_neg Bool.false_ne_true]
      exact thn (mSkip s st1) _ (fun D' z => q0 β1 H1 σ s st1 D' hr1 (hs.ext e1) z) h'
end
/-! ### isinstance(e, C), e.f -/
theorem kit_ref {K : PySem.W.Frag} {D C : Addr} (hd : PySem.W.hasDictIn K C = true) (ht : PySem.W.typeIn K (.ref C) = some (.type "type")) (hs : PySem.W.subIn K (.ref D) (.ref C) = some true) : PySem.W.kitOne K (.ref D) (.ref C) = some true := by
  unfold PySem.W.kitOne
  split
  · rfl
  · obtain ⟨cd, hc, -⟩ := PySem.W.any_some hd
    have h2 : (PySem.W.clsIn K C).isSome = true := by rw [hc]; rfl
    have h3 : ((PySem.W.clsIn K C).isSome && PySem.W.typeIn K (.ref C) == some (.type "type")) = true := by rw [h2, ht]; rfl
    show (if ((PySem.W.clsIn K C).isSome && PySem.W.typeIn K (.ref C) == some (.type "type")) = true then PySem.W.subIn K (.ref D) (.ref C) else none) = some true
    rw [if_pos h3]
    exact hs
theorem kit_typ {K : PySem.W.Frag} {D : Addr} {T : String} (hm : PySem.W.kitMeta T = true) (hs : PySem.W.subIn K (.ref D) (.type T) = some true) : PySem.W.kitOne K (.ref D) (.type T) = some true := by
  unfold PySem.W.kitOne
  split
  · rfl
  · unfold PySem.W.kitCls
    simp only [hm, if_true]
    exact hs
theorem call_isX {X : Cx} {a D : Addr} {oe : Obj} {d : Option Addr} {pn : List (Addr × Obj)} (T : ExcC X.K D) (hz : Zc (.ref D) d oe) (hf : ∃ vs, oe.data = .fields vs) :
    CallR (X.suite a ((a, oe) :: pn)) (.builtin "isinstance") (fun xs H Q => ∃ (c : V) (cv : Value) (b : Bool), xs = [.ref a, c] ∧ (∀ u, RelV c u → u = cv) ∧ PySem.W.kitOne X.K (.ref D) cv = some b ∧ (d = none ∨ ∃ dd gs, d = some dd ∧ H dd = some (.xd gs)) ∧ Q (.bl b) H) := by
  intro pins s σ H xs us Q I r h
  obtain ⟨c, cv, b, rfl, hcv, e, hd, q⟩ := h
  cases r with
  | cons rx rr =>
    cases rr with
    | cons rt rr =>
      cases rr
      cases rx
      cases hcv _ rt
      obtain ⟨hget, -⟩ := I.pin (a, oe) (List.mem_append_left _ List.mem_cons_self)
      obtain ⟨vs, hv⟩ := hf
      have nc : PySem.W.notCls oe := by unfold PySem.W.notCls; rw [hv] <;> trivial
      obtain ⟨od, J⟩ : ∃ od, PySem.W.InstAt s.heap a oe D od := by
        rcases hd with hd | ⟨dd, gs, hd, hx⟩
        · exact ⟨none, hget, hz.1, nc, by rw [hz.2, hd]; trivial⟩
        · have hx2 : ObjOk X.prog X.w H s.heap dd (.xd gs) := I.hok dd _ hx
          obtain ⟨mA, hns, -⟩ := hx2
          obtain ⟨od, ho, -⟩ := lookIn_ns hns
          exact ⟨some od, hget, hz.1, nc, by rw [hz.2, hd]; exact ho⟩
      obtain ⟨cd, hcd, -⟩ := PySem.W.any_some T.hd
      exact PySem.W.kia_one (PySem.W.kitx_exc (by rw [hcd]; rfl) T.hg T.hk T.hs T.ha T.hn T.ht T.hm) I.kIn J e (fun z => nomatch z) fun tk => ⟨.bl b, H, I.kept (t' := tk) fun _ _ z => z, rfl, q⟩
section
variable {X : Cx} {Cl : Nat → Addr} {i : Nat} {a D : Addr} {oe : Obj} {fs : Fl} {d : Option Addr} {pn : List (Addr × Obj)} {pos p1 p2 p3 : Pos} {x y : Str}
theorem hand_some {K : PySem.W.Frag} {β : Bt} {H : Hp} {σ : St} (h : Hand K β H σ i a fs d) : d = none ∨ ∃ dd gs, d = some dd ∧ H dd = some (.xd gs) := h.2.imp (fun z => z.2) fun ⟨dd, gs, h1, _, h3, _⟩ => ⟨dd, gs, h1, h3⟩
theorem qe_is {c : V} {cv : Value} {b : Bool} {e2 : Expr} (T : ExcC X.K D) (hz : Zc (.ref D) d oe) (hf : ∃ vs, oe.data = .fields vs) (hm : X.mg "isinstance" = none) (hv : PE (X.suite a ((a, oe) :: pn)) e2 (tC c)) (hcv : ∀ u, RelV c u → u = cv) (hk : PySem.W.kitOne X.K (.ref D) cv = some b)
    (hN : X.N[i]? = some x := by rfl) (hvis : Vis X.env.scope x := by first | exact Or.inl rfl | exact Or.inr (Or.inl rfl) | exact Or.inr (Or.inr rfl)) (hd : (x == ("__debug__" : Str)) = false := by decide) (hcd : (x == ("__classdict__" : Str)) = false := by decide) (hg : Gl X "isinstance" := by rfl)
    (he : starEach [.Name x p1, e2] (X.suite a ((a, oe) :: pn)).env = (false, eval (.Name x p1) (X.suite a ((a, oe) :: pn)).env) :: starEach [e2] (X.suite a ((a, oe) :: pn)).env := by rfl) (he2 : starEach [e2] (X.suite a ((a, oe) :: pn)).env = (false, eval e2 (X.suite a ((a, oe) :: pn)).env) :: starEach [] (X.suite a ((a, oe) :: pn)).env := by rfl)
    (hpl : (backTo pos (starEach [e2] (X.suite a ((a, oe) :: pn)).env)).any (·.1) = false := by rfl) :
    QE (X.suite a ((a, oe) :: pn)) Cl i a fs d (.Call (.Name "isinstance" p3) [.Name x p1, e2] [] pos) (mC (.bl b)) := by
  refine ⟨_, pe_callB (call_isX T hz hf) hg hm PyProof.Rows.boot_isinstance (pa_cons (hs := he) (pe_var (i := i) hN hvis hd hcd) (pa_cons (hs := he2) hv pa_nil)) (he := he) (hpl := hpl), fun β H σ s st Q hr hs hh h => ?_⟩
  exact ⟨.ref a, hh.1, c, cv, b, rfl, hcv, hk, hand_some hh, PoG.val h hr (.bl b)⟩
/-- what the top says of a class of errors whose fields are read -/
structure XFld (K : PySem.W.Frag) (D : Addr) (f : Str) : Prop where
  ga : PySem.W.findIn K (.ref D) "__getattribute__" = some (some (.builtin "BaseException.__getattribute__"))
  gg : PySem.W.findIn K (.ref D) "__getattr__" = some none
  ex : PySem.W.subIn K (.ref D) (.type "BaseException") = some true
  hd : PySem.W.hasDictIn K D = true
  no : PySem.W.findIn K (.ref D) f = some none
@[simp] def mXF (fs : Fl) (f : Str) : ME := fun _ st => match fs.lookup f with
  | some w => .ok w st
  | none => .stuck
theorem qe_fld {f : Str} (T : XFld X.K D f) (hz : Zc (.ref D) d oe) (hf : ∃ vs, oe.data = .fields vs)
    (hN : X.N[i]? = some x := by rfl) (hvis : Vis X.env.scope x := by first | exact Or.inl rfl | exact Or.inr (Or.inl rfl) | exact Or.inr (Or.inr rfl)) (hd : (x == ("__debug__" : Str)) = false := by decide) (hcd : (x == ("__classdict__" : Str)) = false := by decide)
    (hb : attributeBase (.Name x p1) f (X.suite a ((a, oe) :: pn)).env (eval (.Name x p1) (X.suite a ((a, oe) :: pn)).env) = eval (.Name x p1) (X.suite a ((a, oe) :: pn)).env := by rfl) :
    QE (X.suite a ((a, oe) :: pn)) Cl i a fs d (.Attribute (.Name x p1) f pos) (mXF fs f) := by
  refine ⟨fun σ H Q => σ[i]? = some (some (.ref a)) ∧ ∃ dd gs v, d = some dd ∧ H dd = some (.xd gs) ∧ gs.lookup f = some v ∧ Q v H, ⟨fun pins s σ H Q I h => ?_⟩, fun β H σ s st Q hr hs hh h => ?_⟩
  · obtain ⟨hσ, dd, gs, v, ed, ea, hl, q⟩ := h
    refine attr_of hb (thn ((pe_var (X := X.suite a ((a, oe) :: pn)) (i := i) (pos := p1) hN hvis hd hcd).run pins s σ H (fun u H1 => u = .ref a ∧ H1 = H) I ⟨.ref a, hσ, rfl, rfl⟩) fun u s1 hh => ?_)
    obtain ⟨w, H1, I1, rw1, ew, eH⟩ := hh
    subst ew
    subst eH
    cases (show u = Value.ref a from rw1)
    obtain ⟨ha, -⟩ := I1.pin (a, oe) (List.mem_append_left _ List.mem_cons_self)
    obtain ⟨vs, hdat⟩ := hf
    have ok : ObjOk X.prog X.w H1 s1.heap dd (.xd gs) := I1.hok dd _ ea
    obtain ⟨mA, hns, hrel⟩ := ok
    obtain ⟨od, ho, hlk⟩ := lookIn_ns hns
    obtain ⟨u2, hu, ru⟩ := RelO.some_of (v := v) (o := mA f) (by rw [← hl]; exact hrel f)
    have J : PySem.W.InstAt s1.heap a oe D (some od) := ⟨ha, hz.1, by unfold PySem.W.notCls; rw [hdat] <;> trivial, by rw [hz.2, ed]; exact ho⟩
    exact HandSPX.exc_get I1.kIn J T.ga T.gg T.ex (PySem.W.findObj_own T.hd T.no rfl (by rw [hlk, hu])) (handed_of ru) ⟨v, H1, I1.tok _, ru, q⟩
  · simp only [mXF] at h
    split at h
    · rename_i w ew
      rcases hh.2 with ⟨e1, -⟩ | ⟨dd, gs, e1, -, e3, e4⟩
      · rw [e1] at ew; cases ew
      · obtain ⟨v, hv, rv⟩ := e4.look ew
        exact ⟨hh.1, dd, gs, v, e1, e3, hv, PoG.val h hr rv⟩
    · exact h.elim
end
end Mi
/-! The mirror layer, part V: try: one call, and clauses; raise C(e, ..) where C keeps its arguments as fields. -/
namespace Mi
open PySem L2
abbrev MCl := (Nat → Option Bool) × Option Nat × (Nat → Fl → MS)
def dropO (o : SO) : Option Nat → SO
  | none => o
  | some i => match o with
    | .nx s st => .nx (s.set i none) st
    | .bk s st => .bk (s.set i none) st
    | .ct s st => .ct (s.set i none) st
    | o => o
def dropI (s : Slo) : Option Nat → Slo
  | none => s
  | some i => s.set i none
def inI (s : Slo) : Option Nat → Bool
  | none => true
  | some i => decide (i < s.length)
def mCla : List MCl → Nat → Fl → MS
  | [], c, fs => fun _ st => .exc c fs st
  | (sub, nm, ms) :: r, c, fs => fun s st => match sub c with
    | some true => if inI s nm = true then calmS (dropO (ms c fs (dropI s nm) st) nm) else .stuck
    | some false => mCla r c fs s st
    | none => .stuck
@[simp] def mTryC (body : MS) (cl : List MCl) : MS := fun s st => match body s st with
  | .exc c fs st1 => mCla cl c fs s st1
  | o => o
inductive JCla (X : Cx) (Cl : Nat → Addr) : List ExceptHandler → List MCl → Prop
  | nil : JCla X Cl [] []
  | cons0 {x : Str} {hc : Nat} {sub : Nat → Option Bool} {b₀ : Stmt} {suite : List Stmt} {np pos' : Pos} {hds : List ExceptHandler} {l : List MCl} {ms : MS} (hm : X.mg x = some (.ref (Cl hc)))
      (hsub : ∀ c b, sub c = some b → PySem.W.exmOne X.K (.ref (Cl c)) (.ref (Cl hc)) = some b)
      (hsu : ∀ (a : Addr) (oe : Obj) (pn : List (Addr × Obj)), JSs (X.suite a ((a, oe) :: pn)) Cl E0 (b₀ :: suite) ms) (r : JCla X Cl hds l) (hg : Gl X x := by rfl) (hdb : (x == ("__debug__" : Str)) = false := by decide) :
      JCla X Cl (.ExceptHandler (some (.Name x np)) none (b₀ :: suite) pos' :: hds) ((sub, none, fun _ _ => ms) :: l)
  | cons1 {x n : Str} {hc : Nat} (i : Nat) {sub : Nat → Option Bool} {b₀ : Stmt} {suite : List Stmt} {np pos' : Pos} {hds : List ExceptHandler} {l : List MCl} {ms : Nat → Fl → MS} (hm : X.mg x = some (.ref (Cl hc)))
      (hsub : ∀ c b, sub c = some b → PySem.W.exmOne X.K (.ref (Cl c)) (.ref (Cl hc)) = some b)
      (hsu : ∀ (c : Nat), sub c = some true → ∀ (fs : Fl) (a : Addr) (oe : Obj) (d : Option Addr) (pn : List (Addr × Obj)), Zc (.ref (Cl c)) d oe → (∃ vs, oe.data = .fields vs) → QS (X.suite a ((a, oe) :: pn)) Cl i a fs d (b₀ :: suite) (ms c fs)) (r : JCla X Cl hds l)
      (hi : X.N[i]? = some n := by rfl) (hl : X.env.kindOf n = some .local := by rfl) (hg : Gl X x := by rfl) (hdb : (x == ("__debug__" : Str)) = false := by decide) :
      JCla X Cl (.ExceptHandler (some (.Name x np)) (some n) (b₀ :: suite) pos' :: hds) ((sub, some i, ms) :: l)
/-! ### an error's own dict, guarded -/
theorem ext_guardX {K : PySem.W.Frag} {β : Bt} {H : Hp} {dd : Addr} {gs : List (Str × V)} (hx : H dd = some (.xd gs)) : Ext K β H (β.guard dd) H where
  tup := fun _ _ h => h
  lst := fun q vs hq n => ⟨hq, n.1, fun z => by
    rcases List.mem_cons.mp z with z | z
    · subst z; rw [hx] at hq; cases hq
    · exact n.2 z⟩
  frz := fun _ _ _ h => h
  live := fun _ _ h => .inl h
  prot := fun q hq o ho => ⟨List.mem_cons_of_mem _ hq, ho⟩
theorem hr_guardX {K : PySem.W.Frag} {Cl : Nat → Addr} {β : Bt} {H : Hp} {st : Sto} {dd : Addr} {gs : List (Str × V)} (h : HR K Cl β H st) (hx : H dd = some (.xd gs)) : HR K Cl (β.guard dd) H st where
  len := h.len
  inj := h.inj
  ob := fun i a ob hi ho => (h.ob i a ob hi ho).ext (ext_guardX hx) rfl
  dead := h.dead
  prot := fun q hq => by
    rcases List.mem_cons.mp hq with e | hq
    · subst e
      refine ⟨⟨_, hx⟩, fun i hi => ?_⟩
      obtain ⟨ob, ho⟩ : ∃ ob, st[i]? = some ob := ⟨_, List.getElem?_eq_getElem (h.len' hi)⟩
      obtain ⟨u, hu, hm⟩ := (h.ob i q ob hi ho).some
      rw [hx] at hu
      cases hu
      exact hm
    · exact h.prot q hq
theorem sr_unset {K : PySem.W.Frag} {β : Bt} {H : Hp} {s : Slo} {σ : L2.St} (h : SR K β H s σ) (i : Nat) (x : Option V) : SR K β H (s.set i none) (σ.set i x) := by
  refine ⟨by rw [List.length_set, List.length_set, h.1], fun k w hk => ?_⟩
  by_cases e : i = k
  · subst e
    by_cases hl : i < s.length
    · rw [List.getElem?_set_self hl] at hk; cases hk
    · rw [List.getElem?_eq_none (by rw [List.length_set]; omega)] at hk; cases hk
  · rw [List.getElem?_set_ne e] at hk ⊢
    exact h.2 k w hk
section
variable {X : Cx} {Cl : Nat → Addr} {E : XK}
theorem JCla.ex {hds : List ExceptHandler} {cl : List MCl} (h : JCla X Cl hds cl) : ∃ l : List Cls1, Cla X hds l ∧ ∀ (c : Nat) (fs : Fl) (d : Option Addr) (β : Bt) (H : Hp) (σ : L2.St) (s : Slo) (st : Sto) (D : Ends), HR X.K Cl β H st → SR X.K β H s σ → RX X.K β H fs d →
    PoS X.K Cl E D β H (mCla cl c fs s st) → wList X.K (fun cls d _ H => E cls d H) D l (.ref (Cl c)) d σ H := by
  induction h with
  | nil => exact ⟨[], .nil, fun c fs d β H σ s st D hr hs rx h => h β H d (Ext.refl _ _ _) hr rx⟩
  | @cons0 x hc sub b₀ suite np pos' hds l ms hm hsub hsu r hg hdb ih =>
    obtain ⟨l2, k2, q2⟩ := ih
    refine ⟨(.ref (Cl hc), none, fun _ _ _ D σ H => ∃ β s st, HR X.K Cl β H st ∧ SR X.K β H s σ ∧ PoS X.K Cl E0 D β H (ms s st)) :: l2, .cons0 ⟨hg, hdb, .inl hm⟩ (fun a oe cls d pn _ _ => ?_) k2, fun c fs d β H σ s st D hr hs rx h => ?_⟩
    · obtain ⟨t, p, q⟩ := (hsu a oe pn).ex
      exact pss_imp p fun D σ H ⟨β, s, st, hr, hs, h⟩ => q β H σ s st D hr hs h
    · simp only [mCla] at h
      cases es : sub c with
      | none => rw [es] at h; exact h.elim
      | some b =>
        rw [es] at h
        refine ⟨b, hsub c b es, fun hb a ha => ?_, fun hb => ?_⟩
        · subst hb
          refine ⟨β, s, st, hr, hs, ?_⟩
          simp only [inI, if_true, dropI, dropO] at h
          cases eo : ms s st with
          | exc c2 fs2 st2 => rw [eo] at h; exact h.elim
          | nx s2 st2 => rw [eo] at h; exact h
          | rt w st2 => rw [eo] at h; exact h
          | bk s2 st2 => rw [eo] at h; exact h
          | ct s2 st2 => rw [eo] at h; exact h
          | stuck => rw [eo] at h; exact h
        · subst hb
          exact q2 c fs d β H σ s st D hr hs rx h
  | @cons1 x n hc i sub b₀ suite np pos' hds l ms hm hsub hsu r hi hl hg hdb ih =>
    obtain ⟨l2, k2, q2⟩ := ih
    refine ⟨(.ref (Cl hc), some i, fun a cls d D σ H => ∃ c fs β s st, cls = .ref (Cl c) ∧ sub c = some true ∧ HR X.K Cl β H st ∧ SR X.K β H s σ ∧ Hand X.K β H σ i a fs d ∧ PoS X.K Cl E0 D β H (ms c fs s st)) :: l2, .cons1 ⟨hg, hdb, .inl hm⟩ hi hl (fun a oe cls d pn hz hf => ?_) k2, fun c fs d β H σ s st D hr hs rx h => ?_⟩
    · refine ⟨fun pins s0 σ H D I h => ?_⟩
      obtain ⟨c, fs, β, s, st, rfl, hc2, hr, hs, hh, hp⟩ := h
      obtain ⟨t, p, q⟩ := (hsu c hc2 fs a oe d pn hz hf).ex
      exact p.run pins s0 σ H D I (q β H σ s st D hr hs hh hp)
    · simp only [mCla] at h
      cases es : sub c with
      | none => rw [es] at h; exact h.elim
      | some b =>
        rw [es] at h
        refine ⟨b, hsub c b es, fun hb a ha => ?_, fun hb => ?_⟩
        · subst hb
          simp only [inI, dropI] at h
          by_cases hlen : i < s.length
          · simp only [hlen, decide_true, if_true] at h
            have hσ : (σ.set i (some (V.ref a)))[i]? = some (some (.ref a)) := List.getElem?_set_self (by rw [← hs.1]; exact hlen)
            obtain ⟨β2, e2, hr2, hh⟩ : ∃ β2, Ext X.K β H β2 H ∧ HR X.K Cl β2 H st ∧ Hand X.K β2 H (σ.set i (some (.ref a))) i a fs d := by
              rcases rx with rx | ⟨dd, gs, h1, h2, h3⟩
              · exact ⟨β, Ext.refl _ _ _, hr, hσ, .inl rx⟩
              · exact ⟨β.guard dd, ext_guardX h2, hr_guardX hr h2, hσ, .inr ⟨dd, gs, h1, List.mem_cons_self, h2, h3.ext (ext_guardX h2)⟩⟩
            refine ⟨c, fs, β2, s.set i none, st, rfl, es, hr2, sr_unset (hs.ext e2) i _, hh, ?_⟩
            have h' := PoS.ext e2 h
            simp only [dropO] at h'
            cases eo : ms c fs (s.set i none) st with
            | exc c2 fs2 st2 => rw [eo] at h'; exact h'.elim
            | nx s2 st2 => rw [eo] at h'; exact fun β3 H3 σ3 e3 hr3 hs3 => h' β3 H3 _ e3 hr3 (sr_unset hs3 i none)
            | bk s2 st2 => rw [eo] at h'; exact fun β3 H3 σ3 e3 hr3 hs3 => h' β3 H3 _ e3 hr3 (sr_unset hs3 i none)
            | ct s2 st2 => rw [eo] at h'; exact fun β3 H3 σ3 e3 hr3 hs3 => h' β3 H3 _ e3 hr3 (sr_unset hs3 i none)
            | rt w st2 => rw [eo] at h'; exact h'
            | stuck => rw [eo] at h'; exact h'
          · simp only [hlen, decide_false, Bool.false_eq_true, if_false] at h
            exact h.elim
        · subst hb
          exact q2 c fs d β H σ s st D hr hs rx h
theorem js_tryC {body : List Stmt} {h₀ : ExceptHandler} {hds : List ExceptHandler} {cl : List MCl} {pos : Pos} {mb : MS} (hN : X.N.Nodup) (tk : Takes X (fun cls d _ H => E cls d H))
    (hb : ∀ (W : WX) (pn : List (Addr × Obj)) (xe : Value → Shared → Prop), Takes (X.tr pn xe) W → JB (X.tr pn xe) Cl W body mb)
    (hh : JCla X Cl (h₀ :: hds) cl) (hs : X.stack = X.env :: X.outer := by rfl) (hf : X.env.frame = some X.env.locals := by rfl) :
    JS X Cl E (.Try body (h₀ :: hds) [] [] pos) (mTryC mb cl) := by
  obtain ⟨l, k, q⟩ := hh.ex (E := E)
  refine ⟨_, ps_tryC (tb := fun W => tBody X.K Cl mb W) hs hf hN tk (fun W pn xe t _ => (hb W pn xe t).ps) k, fun β H σ s st D hr hs h => ⟨β, s, st, hr, hs, ?_⟩⟩
  simp only [mTryC] at h
  cases ei : mb s st with
  | exc c fs st1 =>
    rw [ei] at h
    intro β1 H1 d e1 hr1 rx
    exact q c fs d β1 H1 σ s st1 D hr1 (hs.ext e1) rx (PoS.ext e1 h)
  | nx s1 st1 => rw [ei] at h; exact h
  | rt w st1 => rw [ei] at h; exact h
  | bk s1 st1 => rw [ei] at h; exact h
  | ct s1 st1 => rw [ei] at h; exact h
  | stuck => rw [ei] at h; exact h
end
/-- a clause that takes just the error D -/
def Only1 (sub : Nat → Option Bool) (D : Nat) : Prop := ∀ c, sub c = some true → c = D
theorem onlyN {D : Nat} : Only1 tabN D := fun c h => by cases h
theorem onlyT {D : Nat} {r : Nat → Option Bool} (h : Only1 r D) : Only1 (tabC D true r) D := fun c hc => by
  unfold tabC at hc
  split at hc
  · assumption
  · exact h c hc
theorem onlyF {D c0 : Nat} {r : Nat → Option Bool} (h : Only1 r D) : Only1 (tabC c0 false r) D := fun c hc => by
  unfold tabC at hc
  split at hc
  · cases hc
  · exact h c hc
theorem JCla.cons1D {X : Cx} {Cl : Nat → Addr} {x n : Str} {hc D : Nat} (i : Nat) {sub : Nat → Option Bool} {b₀ : Stmt} {suite : List Stmt} {np pos' : Pos} {hds : List ExceptHandler} {l : List MCl} {ms : Fl → MS} (hm : X.mg x = some (.ref (Cl hc)))
    (hsub : ∀ c b, sub c = some b → PySem.W.exmOne X.K (.ref (Cl c)) (.ref (Cl hc)) = some b) (ho : Only1 sub D)
    (hsu : ∀ (fs : Fl) (a : Addr) (oe : Obj) (d : Option Addr) (pn : List (Addr × Obj)), Zc (.ref (Cl D)) d oe → (∃ vs, oe.data = .fields vs) → QS (X.suite a ((a, oe) :: pn)) Cl i a fs d (b₀ :: suite) (ms fs)) (r : JCla X Cl hds l)
    (hi : X.N[i]? = some n := by rfl) (hl : X.env.kindOf n = some .local := by rfl) (hg : Gl X x := by rfl) (hdb : (x == ("__debug__" : Str)) = false := by decide) :
    JCla X Cl (.ExceptHandler (some (.Name x np)) (some n) (b₀ :: suite) pos' :: hds) ((sub, some i, fun _ fs => ms fs) :: l) :=
  .cons1 i hm hsub (fun c hc2 fs a oe d pn hz hf => by
    have := ho c hc2
    subst this
    exact hsu fs a oe d pn hz hf) r hi hl hg hdb
/-! ### errors that keep their arguments -/
/-- what __init__ leaves: one field; two fields -/
def spE1 (C : Addr) (f : Str) : Sp := fun vs H Q _ => ∃ a y, vs = [.ref a, y] ∧ H a = some (exo a C none) ∧ ∀ dx, H dx = none → dx ≠ a → Q .non (upd (upd H dx (exd dx [(f, y)])) a (exo a C (some dx)))
def spE2 (C : Addr) (f g : Str) : Sp := fun vs H Q _ => ∃ a y z, vs = [.ref a, y, z] ∧ H a = some (exo a C none) ∧ ∀ dx, H dx = none → dx ≠ a → Q .non (upd (upd (upd H dx (exd dx [(f, y)])) a (exo a C (some dx))) dx (exd dx [(g, z), (f, y)]))
structure XInit (K : PySem.W.Frag) (mg : Str → Option Value) (x : Str) (C fI : Addr) : Prop where
  g : mg x = some (.ref C)
  o : OexC K C
  i : PySem.W.findIn K (.ref C) "__init__" = some (some (.ref fI))
  t : PySem.W.typeIn K (.ref fI) = some (.type "function")
section
variable {P : Program} {w : World} {K : PySem.W.Frag} {mg : Str → Option Value} {base : Heap}
theorem init1_ok {qual : Str} {st : Stmt} {f C : Addr} {fd : FuncData} {N ps : List Str} {fl : Str} (F : Fun K "__init__" qual st f fd) (S : FnScope N ps (defScope st)) (hp : ps.length = 2) (hN : N.length = 2) (T : OexC K C) (hno : PySem.W.findIn K (.ref C) fl = some none)
    (hb : ∀ (cdv : Value) (A : Around) (outer : List Env) (s : Shared) (H : Hp) (E : XK), ∃ to te, PSs (cxOf CX0 P w K mg base N qual (defScope st) f cdv A outer s H E).nox (defBody st) (tOst K fl to te) ∧ (∀ σ H1 Q v, σ[0]? = some (some v) → Q v H1 → to σ H1 Q) ∧ (∀ σ H1 Q v, σ[1]? = some (some v) → Q v H1 → te σ H1 Q)) :
    FnOk P w K mg base CX0 1 f fd ps (spE1 C fl) := by
  refine F.ok S (fun vs H Q E h => ?_) (fun cdv A outer s H vs Q E hr h => ?_)
  · obtain ⟨a, y, rfl, -⟩ := h; exact hp.symm
  · obtain ⟨to, te, p, q0, q1⟩ := hb cdv A outer s H E
    obtain ⟨a, y, rfl, ha, k⟩ := h
    refine ⟨_, p, ?_⟩
    refine q1 _ _ _ y (by unfold L2.start; simp) (q0 _ _ _ (.ref a) (by unfold L2.start; simp) ⟨a, C, rfl, T, hno, .inl ⟨ha, fun dx h1 h2 => ?_⟩⟩)
    exact k dx h1 h2
end
section
variable {P : Program} {w : World} {K : PySem.W.Frag} {mg : Str → Option Value} {base : Heap}
theorem init2_ok {qual : Str} {st : Stmt} {f C : Addr} {fd : FuncData} {N ps : List Str} {fl gl : Str} (F : Fun K "__init__" qual st f fd) (S : FnScope N ps (defScope st)) (hp : ps.length = 3) (hN : N.length = 3) (T : OexC K C) (hno : PySem.W.findIn K (.ref C) fl = some none) (hno2 : PySem.W.findIn K (.ref C) gl = some none)
    (hb : ∀ (cdv : Value) (A : Around) (outer : List Env) (s : Shared) (H : Hp) (E : XK), ∃ to te te2, PSs (cxOf CX0 P w K mg base N qual (defScope st) f cdv A outer s H E).nox (defBody st) (tSeq (tOst K fl to te) (tOst K gl to te2)) ∧ (∀ σ H1 Q v, σ[0]? = some (some v) → Q v H1 → to σ H1 Q) ∧ (∀ σ H1 Q v, σ[1]? = some (some v) → Q v H1 → te σ H1 Q) ∧ (∀ σ H1 Q v, σ[2]? = some (some v) → Q v H1 → te2 σ H1 Q)) :
    FnOk P w K mg base CX0 1 f fd ps (spE2 C fl gl) := by
  refine F.ok S (fun vs H Q E h => ?_) (fun cdv A outer s H vs Q E hr h => ?_)
  · obtain ⟨a, y, z, rfl, -⟩ := h; exact hp.symm
  · obtain ⟨to, te, te2, p, q0, q1, q2⟩ := hb cdv A outer s H E
    obtain ⟨a, y, z, rfl, ha, k⟩ := h
    refine ⟨_, p, ?_⟩
    refine q1 _ _ _ y (by unfold L2.start; simp) (q0 _ _ _ (.ref a) (by unfold L2.start; simp) ⟨a, C, rfl, T, hno, .inl ⟨ha, fun dx h1 h2 => ?_⟩⟩)
    refine q2 _ _ _ z (by unfold L2.start; simp) (q0 _ _ _ (.ref a) (by unfold L2.start; simp) ⟨a, C, rfl, T, hno2, .inr ⟨dx, [(fl, y)], upd_same, ?_, by simp, k dx h1 h2⟩⟩)
    rw [upd_ne h2, upd_same]
end
/-- the promise of an __init__ that keeps its arguments under the names ns -/
def KeepsF (C : Addr) (ns : List Str) (sp : Sp) : Prop := ∀ (vs : List V) (H1 : Hp) (a : Addr) (Q : XK), vs.length = ns.length → H1 a = none → (∀ d, H1 d = none → Q (.ref C) (some d) (upd H1 d (.xd (List.zip ns vs).reverse))) →
  sp (.ref a :: (vs ++ [])) (upd H1 a (exo a C none)) (fun v H2 => v = .non ∧ ∃ (d : Addr) (fs : List (Str × V)), H2 a = some (exo a C (some d)) ∧ H2 d = some (exd d fs) ∧ H1 d = none ∧ Q (.ref C) (some d) (upd (del H2 a) d (.xd fs))) (fun _ _ _ => False)
theorem keeps1 {C : Addr} {f : Str} : KeepsF C [f] (spE1 C f) := fun vs H1 a Q hl ha k => by
  match vs, hl with
  | [y], _ =>
    refine ⟨a, y, rfl, upd_same, fun dx h1 h2 => ⟨rfl, dx, [(f, y)], upd_same, by rw [upd_ne h2, upd_same], by rwa [upd_ne h2] at h1, ?_⟩⟩
    have hd : H1 dx = none := by rwa [upd_ne h2] at h1
    have e : upd (del (upd (upd (upd H1 a (exo a C none)) dx (exd dx [(f, y)])) a (exo a C (some dx))) a) dx (.xd [(f, y)]) = upd H1 dx (.xd [(f, y)]) := by
      funext b
      by_cases hb : b = dx
      · subst hb; rw [upd_same, upd_same]
      · rw [upd_ne hb, upd_ne hb]
        by_cases hb2 : b = a
        · subst hb2; rw [del_same, ha]
        · rw [del_ne hb2, upd_ne hb2, upd_ne hb, upd_ne hb2]
    rw [e]
    exact k dx hd
theorem keeps2 {C : Addr} {f g : Str} : KeepsF C [f, g] (spE2 C f g) := fun vs H1 a Q hl ha k => by
  match vs, hl with
  | [y, z], _ =>
    refine ⟨a, y, z, rfl, upd_same, fun dx h1 h2 => ⟨rfl, dx, [(g, z), (f, y)], by rw [upd_ne h2.symm, upd_same], upd_same, by rwa [upd_ne h2] at h1, ?_⟩⟩
    have hd : H1 dx = none := by rwa [upd_ne h2] at h1
    have e : upd (del (upd (upd (upd (upd H1 a (exo a C none)) dx (exd dx [(f, y)])) a (exo a C (some dx))) dx (exd dx [(g, z), (f, y)])) a) dx (.xd [(g, z), (f, y)]) = upd H1 dx (.xd [(g, z), (f, y)]) := by
      funext b
      by_cases hb : b = dx
      · subst hb; rw [upd_same, upd_same]
      · rw [upd_ne hb, upd_ne hb]
        by_cases hb2 : b = a
        · subst hb2; rw [del_same, ha]
        · rw [del_ne hb2, upd_ne hb, upd_ne hb2, upd_ne hb, upd_ne hb2]
    rw [e]
    exact k dx hd
@[simp] def mRaiseF (c : Nat) (ns : List Str) (a : MA) : MS := fun s st => match a s st with
  | .ok ws st1 => if ws.length = ns.length then .exc c (List.zip ns ws).reverse st1 else .stuck
  | .exc c2 fs st1 => .exc c2 fs st1
  | .stuck => .stuck
theorem rf_append {K : PySem.W.Frag} {β : Bt} {H : Hp} {κ : Type} : ∀ {fs gs : List (κ × W)} {us vs : List (κ × V)}, RF K β H fs us → RF K β H gs vs → RF K β H (fs ++ gs) (us ++ vs)
  | _, _, _, _, .nil, s => s
  | _, _, _, _, .cons h r, s => .cons h (rf_append r s)
theorem rf_reverse {K : PySem.W.Frag} {β : Bt} {H : Hp} {κ : Type} : ∀ {fs : List (κ × W)} {us : List (κ × V)}, RF K β H fs us → RF K β H fs.reverse us.reverse
  | _, _, .nil => .nil
  | _, _, .cons h r => by
    rw [List.reverse_cons, List.reverse_cons]
    exact rf_append (rf_reverse r) (.cons h .nil)
theorem rf_zip {K : PySem.W.Frag} {β : Bt} {H : Hp} : ∀ (ns : List Str) {ws : List W} {vs : List V}, RVs K β H ws vs → RF K β H (List.zip ns ws) (List.zip ns vs)
  | [], _, _, _ => .nil
  | _ :: _, _, _, .nil => .nil
  | n :: ns, _, _, .cons h r => .cons h (rf_zip ns r)
theorem js_raiseF {X : Cx} {Cl : Nat → Addr} {E : XK} {c k fI : Nat} {x : Str} {ns : List Str} {fd : FuncData} {ps : List Str} {sp : Sp} {e : Expr} {es : List Expr} {mr : MA} {p pos pos' : Pos} (T : XInit X.K X.mg x (Cl c) fI) (F1 : FnOk X.prog X.w X.K X.mg X.base CX0 k fI fd ps sp) (hk : KeepsF (Cl c) ns sp) (hr : Room (k + 1) X.A) (hb : Binds X.K fd ps [])
    (tk : Takes X (fun cls d _ H => E cls d H)) (ha : JA X Cl E (e :: es) mr) (hn : ns.length ≤ 1000 := by decide) (hc : X.calm = true := by rfl) (hg : Gl X x := by rfl) (hdb : (x == ("__debug__" : Str)) = false := by decide) (he : starEach (e :: es) X.env = (false, eval e X.env) :: starEach es X.env := by rfl) (hpl : (backTo pos (starEach es X.env)).any (·.1) = false := by rfl) :
    JS X Cl E (.Raise (some (.Call (.Name x p) (e :: es) [] pos)) none pos') (mRaiseF c ns mr) := by
  obtain ⟨t, pr, q⟩ := ha.ex
  refine ⟨_, ps_raise hc tk (pmk_oex T.o T.i T.t F1 hr hb .nil pass0 hg T.g pr hdb he hpl), fun β H σ s st D hr hs h => q β H σ s st _ hr hs ?_⟩
  simp only [mRaiseF] at h
  cases ei : mr s st with
  | stuck => rw [ei] at h; exact h
  | exc c2 fs st1 => rw [ei] at h; exact h
  | ok ws st1 =>
    rw [ei] at h
    simp only at h
    intro β1 H1 vs e1 hr1 rv
    split at h
    · rename_i hl
      have hl2 : vs.length = ns.length := by rw [← rv.length]; exact hl
      refine ⟨by omega, fun a ha => ?_⟩
      refine hk vs H1 a (fun cls d H' => E cls d H') hl2 ha fun d hd => ?_
      have ex : Ext X.K β1 H1 β1 (upd H1 d (.xd (List.zip ns vs).reverse)) := Ext.new hd
      exact h β1 _ (some d) (e1.trans ex) (hr1.new hd) (.inr ⟨d, _, rfl, upd_same, rf_reverse (rf_zip ns (rv.ext ex))⟩)
    · exact h.elim
end Mi
/-! The mirror layer, part U: dicts with tuple keys: d[..] = v, len(d). -/
namespace Mi
open PySem L2
/-- d[(..)] = v -/
@[simp] def mTPut (d : ME) (k : MA) (e : ME) : MS := fun s st => (e s st).run fun w st1 => (d s st1).run fun x st2 => (k s st2).run fun ks st3 => match x with
  | .ref r => match st3[r]?, keysT ks with
    | some (.dT kvs), some k => if kvs.length < sizeLine ∧ ks.length ≤ sizeLine then .nx s (st3.set r (.dT (putKW kvs k w))) else .stuck
    | _, _ => .stuck
  | _ => .stuck
section
variable {X : Cx} {Cl : Nat → Addr} {E : XK} {pos pos' tpos : Pos}
theorem js_tput {o e : Expr} {es : List Expr} {k : Nat} {md ma : ME} {mk : MA} (hu : X.A.units + 1 < cLine) (ho : JE X Cl E o md) (hi : JA X Cl E es mk) (he : JE X Cl E e ma) (hs : swapsWith e (some (.Subscript o (.Tuple es k tpos) pos')) pos.line X.env = pure false := by rfl) :
    JS X Cl E (.Assign [.Subscript o (.Tuple es k tpos) pos'] e pos) (mTPut md mk ma) := by
  obtain ⟨_, p1, q1⟩ := he.ex
  obtain ⟨_, p2, q2⟩ := ho.ex
  obtain ⟨_, p3, q3⟩ := hi.ex
  refine ⟨_, ps_dput hu p2 (pe_tup p3) p1 hs, fun β H σ s st D hr hs h => q1 β H σ s st _ hr hs (h.run fun x st1 β1 H1 v _ e1 hr1 rx h1 => q2 β1 H1 σ s st1 _ hr1 (hs.ext e1) (h1.run fun y st2 β2 H2 u _ e2 hr2 ry0 h2 =>
    q3 β2 H2 σ s st2 _ hr2 ((hs.ext e1).ext e2) (h2.run fun ks st3 β3 H3 vs _ e3 hr3 rk h3 => ?_)))⟩
  have ry := ry0.ext e3
  cases y with
  | ref r =>
    simp only at h3
    split at h3
    · rename_i kvs k es ek
      split at h3
      · rename_i hl
        refine ⟨by rw [← rk.length]; exact hl.2, fun p hp => ?_⟩
        have e4 : Ext X.K β3 H3 β3 (upd H3 p (.tup vs)) := Ext.new hp
        have hr4 : HR X.K Cl β3 (upd H3 p (.tup vs)) st3 := hr3.new hp
        obtain ⟨a, rfl, hb, gs, hv, hrs⟩ := (ry.ext e4).atRef hr4 es (by intro z; cases z)
        have em : Ext X.K β3 (upd H3 p (.tup vs)) β3 (upd (upd H3 p (.tup vs)) a (.dT (putK gs k v))) := Ext.mut hr4 hb hv trivial
        exact ⟨a, _, rfl, .inr ⟨gs, k, p, hv, rfl, by rw [upd_same, keysT_ok rk ek], by rw [← hrs.length]; exact hl.1, rfl⟩, h3 β3 _ σ (e4.trans em) (hr4.mut hb hv trivial ⟨_, upd_same, (hrs.put k (((rx.ext e2).ext e3).ext e4)).ext em⟩) (((((hs.ext e1).ext e2).ext e3).ext e4).ext em)⟩
      · exact h3.elim
    · exact h3.elim
  | _ => exact h3.elim
/-- len of a dict, whatever its keys are -/
theorem len_raw {prog : Program} {w : World} {A : Around} {E : Value → Shared → Prop} {s : Shared} {d : Addr} {es : Array DictEntry} {ep : Nat} {Q : Value → Shared → Prop} (hd : (d == sysModules) = false) (ty : s.TypeIs (.ref d) "dict") (hm : s.heap.DictRaw d es ep) (hfit : (es.size : Int) < 2 ^ 63)
    (h : ∀ t, Q (.int es.size t) { s with toks := t + 1 }) : wpAny (model prog w) A (call (.builtin "len") [.ref d]) Q E s := by
  have inner : ∀ A : Around, wpAny (model prog w) A (callSpecial? (.ref d) (Str.ofString "__len__")) (fun r s2 => r = some (.int es.size s.toks) ∧ s2 = { s with toks := s.toks + 1 }) E s := fun A =>
    wpAny_callSpecial?_slot (name := Str.ofString "__len__") ty F.slot_dict_len (PySem.call_len_raw hd hm ⟨rfl, rfl⟩)
  have body : ∀ A : Around, wpAny (model prog w) A (Builtin.«len» ⟨[.ref d], []⟩) (fun fin s' => ∃ r, fin = .done (.ret r) ∧ Q r s') E s := by
    intro A
    unfold Builtin.«len»
    refine wpAny_bind (wpAny_pure (wpAny_bind (wpAny_mono (inner A) (fun r s2 e2 => ?_) fun _ _ z => z)))
    obtain ⟨rfl, rfl⟩ := e2
    refine wpAny_bind (wpAny_holding (wpAny_pure (wpAny_bind (wpAny_letGo ?_))))
    show wpAny _ _ (if ((es.size : Nat) : Int) < 0 then _ else if ((es.size : Nat) : Int) ≥ 2 ^ 63 then _ else _) _ _ _
    rw [if_neg (by omega), if_neg (by omega)]
    exact wpAny_bind (wpAny_mkInt (wpAny_pure ⟨_, rfl, h _⟩))
  exact Calls.call_function_entry kind_len plain_len entry_len (args_len1 _) (body _)
/-- len(d), a dict with tuple keys -/
theorem call_lenT {X : Cx} : CallR X (.builtin "len") (fun xs H Q => ∃ a kvs, xs = [.ref a] ∧ H a = some (.dT kvs) ∧ Q (.int kvs.length) H) := by
  intro pins s σ H xs us Q I r h
  obtain ⟨a, kvs, rfl, ha, q⟩ := h
  cases r with
  | cons rx rr =>
    cases rr
    cases rx
    obtain ⟨z, hd, vs, rel, dd⟩ := dt_of I.hok ha
    have ty : s.TypeIs (.ref a) "dict" := dd.typeIs
    obtain ⟨es, ep, raw, rl, -⟩ := Heap.DictOfH.raw dd
    rw [rel.length] at q
    refine len_raw hd ty raw (by rw [rl]; have := rel.length; rw [sizeLine_eq] at z; omega) fun t => ?_
    rw [rl]
    exact ⟨.int vs.length, H, I.tok _, ⟨_, rfl⟩, q⟩
def mLenT : List W → Sto → Out W := fun xs st => match xs with
  | [.ref i] => match st[i]? with
    | some (.dT kvs) => .ok (.int (kvs.length : Nat)) st
    | _ => .stuck
  | _ => .stuck
theorem c_lenT : CallR X (.builtin "len") (fun xs H Q => ∃ a kvs, xs = [.ref a] ∧ H a = some (.dT kvs) ∧ Q (.int kvs.length) H) ∧ SCal X.K Cl E (fun xs H Q => ∃ a kvs, xs = [.ref a] ∧ H a = some (.dT kvs) ∧ Q (.int kvs.length) H) mLenT := by
  refine ⟨call_lenT, fun β H st xs vs Q hr r h => ?_⟩
  unfold mLenT at h
  split at h
  · rename_i i
    split at h
    · rename_i kvs es
      obtain ⟨v, rfl, rv⟩ := r.one
      obtain ⟨a, rfl, hb, gs, hv, hrs⟩ := rv.atRef hr es (by intro z; cases z)
      exact ⟨a, gs, rfl, hv, PoG.val h hr (by rw [hrs.length]; exact .int _)⟩
    · exact h.elim
  · exact h.elim
end
/-- list(range(e)) -/
def mListRg (a : ME) : ME := fun s st => (a s st).bind fun x st1 => match x with
  | .int n => if 0 ≤ n ∧ n ≤ 1000000 then .ok (.lst (rngW 0 n.toNat)) st1 else .stuck
  | _ => .stuck
theorem je_listRg {X : Cx} {Cl : Nat → Addr} {E : XK} {pos p p2 pos2 : Pos} {e : Expr} {m : ME} (hm : X.mg "list" = none) (hmr : X.mg "range" = none) (ha : JE X Cl E e m) (hc : X.calm = true := by rfl) (hg : Gl X "list" := by rfl) (hgr : Gl X "range" := by rfl)
    (n1 : starEach [e] X.env = (false, eval e X.env) :: starEach [] X.env := by rfl) (n2 : starEach [.Call (.Name "range" p2) [e] [] pos2] X.env = (false, eval (.Call (.Name "range" p2) [e] [] pos2) X.env) :: starEach [] X.env := by rfl) :
    JE X Cl E (.Call (.Name "list" p) [.Call (.Name "range" p2) [e] [] pos2] [] pos) (mListRg m) := by
  obtain ⟨_, p1, q1⟩ := ha.ex
  refine ⟨_, pe_listRg hc hg hm (prg_1 hgr hmr p1 n1) n2, fun β H σ s st Q hr hs h => q1 β H σ s st _ hr hs ?_⟩
  refine h.bind fun x st1 β1 H1 v eo e1 hr1 rx h1 => ?_
  clear eo
  split at h1
  · rename_i n
    cases rx
    split at h1
    · rename_i hn
      refine ⟨n, rfl, ⟨by omega, by omega, by omega, by omega⟩, fun l hl => ?_⟩
      have rv : RVs X.K β1 H1 (rngW 0 n.toNat) (rgV 0 n) := by
        unfold rngW rgV
        rw [Int.sub_zero]
        generalize List.range n.toNat = ks
        induction ks with
        | nil => exact .nil
        | cons k ks ih => exact .cons (.int _) ih
      exact Po.lst h1 hr1 hl rv
    · exact h1.elim
  · exact h1.elim
end Mi
/-! The mirror layer, part W: return [f(..)] in a try's body; t[::-1] of a tuple. -/
namespace HT
open PySem PySem.Spec PyProof.Rows
section
variable {prog : Program} {w : World} {A : Around} {E : Value → Shared → Prop} {s : Shared}
theorem adjust_rev (n : Nat) : Builtin.Slice.sliceAdjust none none (-1) (n : Int) = ((n : Int) - 1, -1) := rfl
theorem places_rev (n : Nat) : Builtin.Slice.slicePlaces ((n : Int) - 1) (-1) (-1) = n := by
  unfold Builtin.Slice.slicePlaces
  have h1 : ¬ ((-1 : Int) > 0) := by omega
  simp only [h1, if_false, Int.neg_neg, Int.ediv_one]
  split <;> omega
theorem sliceApplied_rev {sl : Addr} {tk : Tok} {n : Nat} {Q : Int × Int × Nat → Shared → Prop} (hs : s.heap.IsSliceOf sl .none .none (.int (-1) tk)) (h : Q ((n : Int) - 1, -1, n) s) : wpAny (model prog w) A (Builtin.Slice.sliceApplied (.ref sl) (pure (n : Int))) Q E s := by
  obtain ⟨os, hos, hcs, hds⟩ := id hs
  unfold Builtin.Slice.sliceApplied Builtin.Slice.sliceFields
  refine wpAny_bind (wpAny_bind (wpAny_field hos hds (x := .none) rfl (wpAny_bind (wpAny_field hos hds (x := .none) rfl (wpAny_bind (wpAny_field hos hds (x := .int (-1) tk) rfl (wpAny_pure ?_)))))))
  refine wpAny_bind (slicePart_int ?_)
  show wpAny _ _ (if ((-1 : Int) == 0) = true then _ else _) _ _ s
  rw [if_neg (by decide)]
  refine wpAny_bind (slicePart_none (wpAny_bind (slicePart_none (wpAny_bind (wpAny_pure ?_)))))
  show wpAny _ _ (match Builtin.Slice.sliceAdjust none none (-1) (n : Int) with | (lo, hi) => pure (lo, (-1 : Int), Builtin.Slice.slicePlaces lo hi (-1))) _ _ s
  rw [adjust_rev n]
  show wpAny _ _ (pure ((n : Int) - 1, (-1 : Int), Builtin.Slice.slicePlaces ((n : Int) - 1) (-1) (-1))) _ _ s
  rw [places_rev]
  exact wpAny_pure h
theorem fm_congr {α β : Type} {f g : α → Option β} : ∀ l : List α, (∀ x ∈ l, f x = g x) → l.filterMap f = l.filterMap g
  | [], _ => rfl
  | x :: l, h => by
    rw [List.filterMap_cons, List.filterMap_cons, h x (by simp), fm_congr l fun y hy => h y (by simp [hy])]
theorem pick_rev (xs : Array Value) : ((List.range xs.size).filterMap fun (m : Nat) => xs[(((xs.size : Int) - 1) + (m : Int) * (-1)).toNat]?).toArray = xs.toList.reverse.toArray := by
  congr 1
  have e : (List.range xs.size).map (fun k => xs.size - 1 - k) = (List.range xs.size).reverse := by
    apply List.ext_getElem
    · simp
    · intro i h1 h2
      rw [List.getElem_map, List.getElem_reverse]
      simp
  have e2 : (List.range xs.size).filterMap (fun (m : Nat) => xs[(((xs.size : Int) - 1) + (m : Int) * (-1)).toNat]?) = ((List.range xs.size).map (fun k => xs.size - 1 - k)).filterMap (fun k => xs[k]?) := by
    rw [List.filterMap_map]
    refine fm_congr _ fun m hm => ?_
    have := List.mem_range.mp hm
    have e3 : (((xs.size : Int) - 1) + (m : Int) * (-1)).toNat = xs.size - 1 - m := by omega
    simp only [e3, Function.comp]
  rw [e2, e, List.filterMap_reverse]
  have h := pick_run xs 0 xs.size
  have e4 : (List.range xs.size).map (0 + ·) = List.range xs.size := by
    rw [show ((0 + ·) : Nat → Nat) = id from funext fun k => Nat.zero_add k, List.map_id]
  rw [e4, List.drop_zero, List.take_of_length_le (by rw [Array.length_toList]; exact Nat.le_refl _)] at h
  rw [h]
theorem getItem_tuple_rev {t sl : Addr} {items : Array Value} {tk : Tok} {Q : Value → Shared → Prop} (ht : IsTup s.heap t items) (hs : s.heap.IsSliceOf sl .none .none (.int (-1) tk))
    (h : Q (.ref s.heap.objs.size) { s with heap := s.heap.push { cls := .type "tuple", data := .seq items.toList.reverse.toArray } })
    (hsz : items.size ≤ sizeLine) : wpAny (model prog w) A (getItem (.ref t) (.ref sl)) Q E s := by
  have htake : sizeOk (.seq items.toList.reverse.toArray) := by
    show items.toList.reverse.toArray.size ≤ sizeLine
    rw [List.size_toArray, List.length_reverse, Array.length_toList]
    exact hsz
  obtain ⟨os, hos, hcs, hds⟩ := id hs
  have hTs : s.TypeIs (.ref sl) "slice" := ⟨os, hos, hcs⟩
  unfold getItem
  try with_reducible refine wpAny_holding ?_
  first | refine wpAny_bind (wpAny_pure ?_) | skip
  refine wpAny_bind (wpAny_sequenceKey ht.typeIs (by decide) ?_)
  refine wpAny_bind (wpAny_callSpecial?_slot (name := Str.ofString "__getitem__") ht.typeIs PyProof.Rows.slot_tuple_getitem
    (wpAny_call_entry PyProof.Rows.slot_tuple_getitem ht.typeIs entry_tuple_getitem ?_ (args_tuple_getitem _ _)))
  show wpAny _ _ (Builtin.Tuple.tupleItemsOf (.ref t) >>= _) _ _ s
  refine wpAny_bind (tupleItemsOf_ ht ?_)
  refine wpAny_bind (wpAny_typeOf hTs ?_)
  rw [if_pos (by decide)]
  refine wpAny_bind (sliceApplied_rev hs ?_)
  have hno : ¬ ((((items.size : Int) - 1) == 0 && (-1 : Int) == 1 && items.size == items.size) = true) := by
    intro q
    rw [Bool.and_eq_true, Bool.and_eq_true] at q
    have := eq_of_beq q.1.2
    omega
  show wpAny _ _ (if (((items.size : Int) - 1) == 0 && (-1 : Int) == 1 && items.size == items.size) = true then _ else _) _ _ s
  rw [if_neg hno, pick_rev]
  first
    | exact wpAny_bind (m := Builtin.Tuple.tupleExact _) (wpAny_newObj_type (wpAny_pure ⟨_, rfl, wpAny_pure h⟩) htake)
    | exact wpAny_bind (m := Builtin.Tuple.tupleExact _) (wpAny_newObj_type (wpAny_bind (wpAny_pure (wpAny_pure ⟨_, rfl, wpAny_pure h⟩))) htake)
    | exact wpAny_bind (wpAny_bind (m := Builtin.Tuple.tupleExact _) (wpAny_newObj_type (wpAny_pure (wpAny_pure ⟨_, rfl, wpAny_pure h⟩)) htake))
    | exact wpAny_bind (wpAny_bind (m := Builtin.Tuple.tupleExact _) (wpAny_newObj_type (wpAny_pure ⟨_, rfl, wpAny_pure h⟩) htake))
end
end HT
namespace Mi
open PySem L2 PyProof.Rows HT
section
variable {X : Cx} {Cl : Nat → Addr} {W : WX} {e : Expr} {m : ME} {pos : Pos}
theorem jc_lst1 (h : JC X Cl W e m) (hs : starEach [e] X.env = (false, eval e X.env) :: starEach [] X.env := by rfl) : JC X Cl W (.List [e] pos) (mLst (mCons m mNil)) := by
  obtain ⟨t, p, q⟩ := h.ex
  refine ⟨_, pe_lst (pa_cons p pa_nil hs), fun β H σ s st Q hr hs h => q β H σ s st _ hr hs ?_⟩
  have h' : Po X.K Cl (WE W σ) β H Q ((m s st).bind fun x st1 => .ok (.lst [x]) st1) := by
    cases hm : m s st <;> simpa [mLst, mCons, mNil, hm, sizeLine_eq] using h
  exact h'.bind fun x st1 β1 H1 v _ e1 hr1 rx h1 => ⟨by simp [sizeLine_eq], fun l hl => Po.lst h1 hr1 hl (.cons rx .nil)⟩
end
def tRev (K : PySem.W.Frag) (te tk : TE) : TE := fun σ H Q => te σ H fun x H1 => tk σ H1 fun y H2 => y = .int (-1) ∧ ∃ a xs, x = .ref a ∧ SqT K H2 a xs ∧ ∀ p, H2 p = none → Q (.ref p) (upd H2 p (.tup xs.reverse))
theorem pe_rev {X : Cx} {e k : Expr} {te tk : TE} {pos p2 : Pos} (he : PE X e te) (hk : PE X k tk) : PE X (.Subscript e (.Slice none none (some k) p2) pos) (tRev X.K te tk) := by
  refine ⟨fun pins s σ H Q I h => ?_⟩
  refine Subscript_ (thn (he.run pins s σ H _ I h) fun v s1 ⟨x, H1, I1, r1, q1⟩ => ?_)
  refine wpAny_Slice ?_
  rw [evalPart_none]
  refine wpAny_pure ?_
  refine wpAny_pure ?_
  show wpAny _ _ (eval k X.env) _ _ s1
  refine thn (hk.run pins s1 σ H1 _ I1 q1) fun u s2 ⟨y, H2, I2, r2, q2⟩ => ?_
  obtain ⟨rfl, a, xs, rfl, hx, q⟩ := q2
  obtain ⟨tk', rfl⟩ := r2
  have I3 : Inv X pins σ H2 { s2 with heap := s2.heap.push { cls := .type "slice", data := .fields #[.none, .none, .int (-1) tk'] } } := I2.kept (t' := s2.toks) fun b ob q => Heap.get?_push_of_some _ q
  cases r1
  obtain ⟨its, r, ht, hz⟩ := I3.tuple hx
  have hlen : its.toArray.size = xs.length := by rw [List.size_toArray]; exact r.length.symm
  show wpAny (model X.prog X.w) X.A (subscriptTail e (.Slice none none (some k) p2) (.ref a) (.ref s2.heap.objs.size)) (EP X pins σ Q) X.xe _
  refine tail_any (ops := [.ref a, .ref s2.heap.objs.size]) ht.typeIs PyProof.Rows.slot_tuple_getitem.lookup ?_ (by with_unfolding_all rfl)
  refine getItem_tuple_rev ht (Heap.IsSliceOf.new ..) ?_ (by rw [hlen]; exact hz)
  refine ⟨.ref _, _, I3.laid (t' := s2.toks) (o := .tup xs.reverse) (fun b ob q => Heap.get?_push_of_some _ q) (Nat.le_refl _) ?_, rfl, q _ (I3.hok.fresh (Nat.le_refl _))⟩
  exact ⟨by rw [List.length_reverse]; exact hz, _, r.reverse, IsTup.new _ _⟩
@[simp] def mRev (a k : ME) : ME := fun s st => (a s st).bind fun x st1 => (k s st1).bind fun y st2 => match x, y with
  | .tup ws, .int i => if i = -1 then .ok (.tup ws.reverse) st2 else .stuck
  | _, _ => .stuck
section
variable {X : Cx} {Cl : Nat → Addr} {E : XK} {pos p2 : Pos} {ma mk : ME} {a k : Expr}
theorem je_rev (ha : JE X Cl E a ma) (hk : JE X Cl E k mk) : JE X Cl E (.Subscript a (.Slice none none (some k) p2) pos) (mRev ma mk) := by
  obtain ⟨_, p1, q1⟩ := ha.ex
  obtain ⟨_, p2, q2⟩ := hk.ex
  refine ⟨_, pe_rev p1 p2, fun β H σ s st Q hr hs h => q1 β H σ s st _ hr hs (h.bind fun x st1 β1 H1 v _ e1 hr1 rx1 h1 => q2 β1 H1 σ s st1 _ hr1 (hs.ext e1) (h1.bind fun y st2 β2 H2 u _ e2 hr2 ry h2 => ?_))⟩
  have rx := rx1.ext e2
  split at h2
  · split at h2
    · rename_i hi
      subst hi
      cases ry
      cases rx with
      | @tup p ws vs h3 r3 => exact ⟨rfl, p, vs, rfl, h3, fun l hl => Po.tup h2 hr2 hl r3.reverse⟩
    · exact h2.elim
  · exact h2.elim
end
/-- t * k of a tuple, k from 2 on -/
@[simp] def mMulT : M2 := fun x y st => match x, y with
  | .tup ws, .int k => if ws ≠ [] ∧ 2 ≤ k ∧ k ≤ 1000 ∧ ws.length ≤ 1000 then .ok (.tup (List.replicate k.toNat ws).flatten) st else .stuck
  | _, _ => .stuck
theorem o_mulT {X : Cx} {Cl : Nat → Addr} {E : XK} : OpR X (binaryOp .Mult) (rRepT X.K) ∧ SOp X.K Cl E (rRepT X.K) mMulT := by
  refine ⟨op_repT, fun β H st x y v u Q hr rx ry h => ?_⟩
  unfold mMulT at h
  split at h
  · split at h
    · rename_i hz
      cases ry
      cases rx with
      | @tup p ws vs h3 r3 => exact ⟨p, _, vs, rfl, rfl, h3, (fun e => hz.1 (by subst e; cases r3; rfl)), hz.2.1, hz.2.2.1, by rw [← r3.length]; exact hz.2.2.2, fun l hl => Po.tup h hr hl (r3.rep _)⟩
    · exact h.elim
  · exact h.elim
end Mi
/-! The mirror layer, part N: d.get(k, x); a dict of the module with texts as keys and numbers as values. -/
namespace Mi
open PySem L2 PyProof.Rows
@[simp] def mDGet2 (d k x : ME) : ME := fun s st => (d s st).bind fun a st1 => match a with
  | .ref j => match st1[j]? with
    | some (.dK _) => (k s st1).bind fun y st2 => (x s st2).bind fun z st3 => match st3[j]?, toKey y with
      | some (.dK kvs), some k => .ok ((valW kvs k).getD z) st3
      | _, _ => .stuck
    | _ => .stuck
  | _ => .stuck
section
variable {X : Cx} {Cl : Nat → Addr} {E : XK} {pos p apos cpos : Pos} {md mk mx : ME} {o e f : Expr}
theorem je_dget2 (hu : X.A.units + 1 < cLine) (ho : JE X Cl E o md) (he : JE X Cl E e mk) (hf : JE X Cl E f mx) (m : L2.M2 X o "get" apos e f cpos := by exact ⟨rfl, rfl, rfl, rfl⟩) : JE X Cl E (.Call (.Attribute o "get" apos) [e, f] [] cpos) (mDGet2 md mk mx) := by
  obtain ⟨_, p1, q1⟩ := ho.ex
  obtain ⟨_, p2, q2⟩ := he.ex
  obtain ⟨_, p3, q3⟩ := hf.ex
  refine ⟨_, pe_dget2 hu p1 p2 p3 m, fun β H σ s st Q hr hs h => q1 β H σ s st _ hr hs (h.bind fun x st1 β1 H1 v _ e1 hr1 rx1 h1 => ?_)⟩
  cases x with
  | ref j =>
    simp only at h1
    split at h1
    · rename_i kv1 es1
      obtain ⟨a, rfl, _, gs1, hg1, -⟩ := rx1.atRef hr1 es1 (by intro z; cases z)
      refine ⟨a, rfl, .inl ⟨gs1, .inl hg1⟩, q2 β1 H1 σ s st1 _ hr1 (hs.ext e1) (h1.bind fun y st2 β2 H2 u _ e2 hr2 ry2 h2 => q3 β2 H2 σ s st2 _ hr2 ((hs.ext e1).ext e2) (h2.bind fun z st3 β3 H3 t _ e3 hr3 rz h3 => ?_))⟩
      have rx := rx1.ext (e2.trans e3)
      have ry := ry2.ext e3
      split at h3
      · rename_i kvs k es ek
        obtain ⟨a', ea, _, gs, hg, hrs⟩ := rx.atRef hr3 es (by intro z; cases z)
        cases ea
        cases ev : valW kvs k with
        | none =>
          rw [ev] at h3
          exact ⟨none, .inl ⟨gs, k, .inl hg, toKey_ok ry ek, (hrs.valN ev).symm⟩, PoG.val h3 hr3 rz⟩
        | some w =>
          rw [ev] at h3
          obtain ⟨v, hv, rv⟩ := hrs.val ev
          exact ⟨some v, .inl ⟨gs, k, .inl hg, toKey_ok ry ek, hv.symm⟩, PoG.val h3 hr3 rv⟩
      · exact h3.elim
    · exact h1.elim
  | _ => exact h1.elim
end
/-! ### a dict of the module -/
abbrev TabZ := List (Str × Option Int)
def lookZ (tz : TabZ) (z : Str) : Option (Option Int) := (tz.find? fun p => decide (p.1 = z)).map (·.2)
structure KDt (K : PySem.W.Frag) (w : World) (d : Addr) (tz : TabZ) : Prop where
  D : ∃ es n, KDict K w d es n
  n : ∀ z, lookZ tz z = some none → PySem.W.nsIn K d z = some none
  i : ∀ z i, lookZ tz z = some (some i) → ∃ t, PySem.W.nsIn K d z = some (some (.int i t))
theorem KDt.nil {K : PySem.W.Frag} {w : World} {d : Addr} {es : Array DictEntry} {n : Nat} (D : KDict K w d es n) : KDt K w d [] := ⟨⟨es, n, D⟩, fun z h => by simp [lookZ] at h, fun z i h => by simp [lookZ] at h⟩
theorem lookZ_cons (z : Str) (o : Option Int) (tz : TabZ) (y : Str) : lookZ ((z, o) :: tz) y = if z = y then some o else lookZ tz y := by
  unfold lookZ
  rw [List.find?_cons]
  by_cases h : z = y
  · simp [h]
  · simp [h]
theorem KDt.cn {K : PySem.W.Frag} {w : World} {d : Addr} {tz : TabZ} {z : Str} (T : KDt K w d tz) (h : PySem.W.nsIn K d z = some none) : KDt K w d ((z, none) :: tz) := by
  refine ⟨T.D, fun y e => ?_, fun y i e => ?_⟩
  · rw [lookZ_cons] at e
    split at e
    · rename_i hz; subst hz; exact h
    · exact T.n y e
  · rw [lookZ_cons] at e
    split at e
    · cases e
    · exact T.i y i e
theorem KDt.ci {K : PySem.W.Frag} {w : World} {d : Addr} {tz : TabZ} {z : Str} {i : Int} {t : Tok} (T : KDt K w d tz) (h : PySem.W.nsIn K d z = some (some (.int i t))) : KDt K w d ((z, some i) :: tz) := by
  refine ⟨T.D, fun y e => ?_, fun y j e => ?_⟩
  · rw [lookZ_cons] at e
    split at e
    · cases e
    · exact T.n y e
  · rw [lookZ_cons] at e
    split at e
    · rename_i hz
      subst hz
      cases e
      exact ⟨t, h⟩
    · exact T.i y j e
@[simp] def mInT (tz : TabZ) (a : ME) : ME := fun s st => (a s st).bind fun x st1 => match x with
  | .str z => match lookZ tz z with
    | some o => .ok (.bl o.isSome) st1
    | none => .stuck
  | _ => .stuck
@[simp] def mNotInT (tz : TabZ) (a : ME) : ME := fun s st => (a s st).bind fun x st1 => match x with
  | .str z => match lookZ tz z with
    | some o => .ok (.bl (!o.isSome)) st1
    | none => .stuck
  | _ => .stuck
@[simp] def mItemT (tz : TabZ) (a : ME) : ME := fun s st => (a s st).bind fun x st1 => match x with
  | .str z => match lookZ tz z with
    | some (some i) => .ok (.int i) st1
    | _ => .stuck
  | _ => .stuck
theorem KDt.look {K : PySem.W.Frag} {w : World} {d : Addr} {tz : TabZ} (T : KDt K w d tz) {z : Str} {o : Option Int} (h : lookZ tz z = some o) : ∃ r, PySem.W.nsIn K d z = some r ∧ r.isSome = o.isSome := by
  cases o with
  | none => exact ⟨none, T.n z h, rfl⟩
  | some i =>
    obtain ⟨t, e⟩ := T.i z i h
    exact ⟨_, e, rfl⟩
section
variable {X : Cx} {Cl : Nat → Addr} {E : XK} {pos p : Pos} {ma : ME} {a : Expr} {d : Addr} {x : Str} {tz : TabZ}
theorem se_inT {t : TE} (T : KDt X.K X.w d tz) (q1 : SE X.K Cl E t ma) : SE X.K Cl E (tOp (fun x y H Q => ∃ (z : Str) (r : Option Value), x = .str z ∧ y = .ref d ∧ PySem.W.nsIn X.K d z = some r ∧ Q (.bl r.isSome) H) t (tC (.ref d))) (mInT tz ma) :=
  fun β H σ s st Q hr hs h => q1 β H σ s st _ hr hs (h.bind fun y st1 β1 H1 v _ e1 hr1 ry h1 => by
    split at h1
    · split at h1
      · rename_i z o ho
        cases ry
        obtain ⟨r, e, er⟩ := T.look ho
        exact ⟨_, r, rfl, rfl, e, by rw [er]; exact PoG.val h1 hr1 (.bl _)⟩
      · exact h1.elim
    · exact h1.elim)
theorem se_notInT {t : TE} (T : KDt X.K X.w d tz) (q1 : SE X.K Cl E t ma) : SE X.K Cl E (tOp (fun x y H Q => ∃ (z : Str) (r : Option Value), x = .str z ∧ y = .ref d ∧ PySem.W.nsIn X.K d z = some r ∧ Q (.bl (!r.isSome)) H) t (tC (.ref d))) (mNotInT tz ma) :=
  fun β H σ s st Q hr hs h => q1 β H σ s st _ hr hs (h.bind fun y st1 β1 H1 v _ e1 hr1 ry h1 => by
    split at h1
    · split at h1
      · rename_i z o ho
        cases ry
        obtain ⟨r, e, er⟩ := T.look ho
        exact ⟨_, r, rfl, rfl, e, by rw [er]; exact PoG.val h1 hr1 (.bl _)⟩
      · exact h1.elim
    · exact h1.elim)
theorem je_inT (T : KDt X.K X.w d tz) (hm : X.mg x = some (.ref d)) (ha : JE X Cl E a ma) (hg : Gl X x := by rfl) (hd : (x == ("__debug__" : Str)) = false := by decide) (hb : behindInMarks .In (.Name x p) = false := by rfl) : JE X Cl E (.Compare a [.In] [.Name x p] pos) (mInT tz ma) := by
  obtain ⟨t, p1, q1⟩ := ha.ex
  obtain ⟨es, n, D⟩ := T.D
  exact ⟨_, pe_cmpR (op_in_kd D) p1 (pe_glob (v := .ref d) hg hm rfl hd) hb, se_inT T q1⟩
theorem je_notInT (T : KDt X.K X.w d tz) (hm : X.mg x = some (.ref d)) (ha : JE X Cl E a ma) (hg : Gl X x := by rfl) (hd : (x == ("__debug__" : Str)) = false := by decide) (hb : behindInMarks .NotIn (.Name x p) = false := by rfl) : JE X Cl E (.Compare a [.NotIn] [.Name x p] pos) (mNotInT tz ma) := by
  obtain ⟨t, p1, q1⟩ := ha.ex
  obtain ⟨es, n, D⟩ := T.D
  exact ⟨_, pe_cmpR (op_notIn_kd D) p1 (pe_glob (v := .ref d) hg hm rfl hd) hb, se_notInT T q1⟩
theorem jt_inT (T : KDt X.K X.w d tz) (hm : X.mg x = some (.ref d)) (ha : JE X Cl E a ma) (hg : Gl X x := by rfl) (hd : (x == ("__debug__" : Str)) = false := by decide) (hb : behindInMarks .In (.Name x p) = false := by rfl) : JT X Cl E (.Compare a [.In] [.Name x p] pos) (mTest (mInT tz ma)) := by
  obtain ⟨t, p1, q1⟩ := ha.ex
  obtain ⟨es, n, D⟩ := T.D
  exact ⟨_, pt_cmpR (op_in_kd D) p1 (pe_glob (v := .ref d) hg hm rfl hd) hb, st_test (se_inT T q1)⟩
theorem jt_notInT (T : KDt X.K X.w d tz) (hm : X.mg x = some (.ref d)) (ha : JE X Cl E a ma) (hg : Gl X x := by rfl) (hd : (x == ("__debug__" : Str)) = false := by decide) (hb : behindInMarks .NotIn (.Name x p) = false := by rfl) : JT X Cl E (.Compare a [.NotIn] [.Name x p] pos) (mTest (mNotInT tz ma)) := by
  obtain ⟨t, p1, q1⟩ := ha.ex
  obtain ⟨es, n, D⟩ := T.D
  exact ⟨_, pt_cmpR (op_notIn_kd D) p1 (pe_glob (v := .ref d) hg hm rfl hd) hb, st_test (se_notInT T q1)⟩
theorem je_itemT (T : KDt X.K X.w d tz) (hm : X.mg x = some (.ref d)) (ha : JE X Cl E a ma) (hg : Gl X x := by rfl) (hd : (x == ("__debug__" : Str)) = false := by decide) (hs : PlainIx a := by exact fun _ _ => rfl) : JE X Cl E (.Subscript (.Name x p) a pos) (mItemT tz ma) := by
  obtain ⟨t, p1, q1⟩ := ha.ex
  obtain ⟨es, n, D⟩ := T.D
  refine ⟨_, pe_ix ix_kdict (pe_glob (v := .ref d) hg hm rfl hd) p1 hs, fun β H σ s st Q hr hs h => q1 β H σ s st _ hr hs (h.bind fun y st1 β1 H1 v _ e1 hr1 ry h1 => ?_)⟩
  split at h1
  · split at h1
    · rename_i z he _ i ho
      cases ry
      obtain ⟨t, e⟩ := T.i _ _ ho
      exact ⟨d, z, .int i, rfl, rfl, ⟨es, n, _, D.at_, D.lit, e, ⟨t, rfl⟩⟩, PoG.val h1 hr1 (.int _)⟩
    · exact h1.elim
  · exact h1.elim
end
end Mi
/-! The mirror layer, part M: t * k of a tuple for k = 0 and k = 1, too. -/
namespace L2
open PySem PySem.Spec PyProof.Rows
theorem tuple_mul1 (l : Addr) (items : Array Value) (n : Nat) (dd : Option Addr) (sl : Array (Option Value)) (u : Tok) :
    Meets (Builtin.«tuple.__mul__» ⟨[.ref l, .int 1 u], []⟩) (fun _ R s => s.heap.get? l = some { cls := .type "tuple", dict := dd, data := .seq items n, slots := sl } ∧ R (.ok (.ret (Value.ref l))) s) :=
  .of_wp fun prog w A R s h => by
    obtain ⟨hp, g, d, tk, os⟩ := s
    obtain ⟨hl, h⟩ := h
    have f1 := AutoSeq1.idx_int
    have hT : (⟨hp, g, d, tk, os⟩ : Shared).TypeIs (.ref l) "tuple" := ⟨_, hl, rfl⟩
    have c1 : (items.isEmpty || ((1 : Int) == 1)) = true := by simp
    wp_walk using wpAny_loadPart' hl
    exact ⟨_, rfl, h⟩
theorem tuple_mul0 (l : Addr) (items : Array Value) (n : Nat) (dd : Option Addr) (sl : Array (Option Value)) (u : Tok) (hi : items.isEmpty = false) :
    Meets (Builtin.«tuple.__mul__» ⟨[.ref l, .int 0 u], []⟩) (fun _ R s => s.heap.get? l = some { cls := .type "tuple", dict := dd, data := .seq items n, slots := sl } ∧
      R (.ok (.ret (Value.ref s.heap.objs.size))) { s with heap := s.heap.push { cls := Value.type "tuple", data := Data.seq #[] }, toks := s.toks }) :=
  .of_wp fun prog w A R s h => by
    obtain ⟨hp, g, d, tk, os⟩ := s
    obtain ⟨hl, h⟩ := h
    have f1 := AutoSeq1.idx_int
    wp_walk using wpAny_loadPart' hl
    exact ⟨_, rfl, h⟩
def rRepS (K : PySem.W.Frag) : R2 := fun x y H Q => ∃ l xs, x = .ref l ∧ SqT K H l xs ∧ xs ≠ [] ∧ ((y = .int 1 ∧ Q (.ref l) H) ∨ (y = .int 0 ∧ ∀ p, H p = none → Q (.ref p) (upd H p (.tup []))))
theorem op_repS {X : Cx} : OpR X (binaryOp .Mult) (rRepS X.K) := by
  intro pins s σ H x y v u Q I rx ry h
  obtain ⟨l, xs, rfl, hT, hne, h⟩ := h
  cases rx
  obtain ⟨its, r, ⟨⟨cls, dd, data, sl⟩, ho, hc, n, hd⟩, hs⟩ := I.tuple hT
  simp only at hc hd
  subst hc hd
  have hi : its.toArray.isEmpty = false := by
    cases its with
    | nil => cases r; exact absurd rfl hne
    | cons a b => rfl
  rcases h with ⟨rfl, q⟩ | ⟨rfl, q⟩
  · obtain ⟨t, rfl⟩ := ry
    refine wpAny_binaryOp_repeat_ref (T := "tuple") (U := "int") (by decide) ⟨_, ho, rfl⟩ (fun s' => typeIs_int s' 1 t) noFill_tuple_mul F.fills_int_mul F.slot_int_rmul repeat_tuple F.slot_int_index.lookup
      (call_meets F.slot_int_rmul (typeIs_int s 1 t) F.entry_int_rmul (F.args_int_rmul_2 _ _) (int_rmul_tuple 1 t l its.toArray n dd sl)
        ⟨ho, rfl, ⟨_, ho, rfl⟩, call_meets F.slot_tuple_mul ⟨_, ho, rfl⟩ F.entry_tuple_mul (F.args_tuple_mul_2 _ _) (tuple_mul1 l its.toArray n dd sl t) ⟨ho, ?_⟩⟩)
    exact ⟨.ref l, H, I, rfl, q⟩
  · obtain ⟨t, rfl⟩ := ry
    refine wpAny_binaryOp_repeat_ref (T := "tuple") (U := "int") (by decide) ⟨_, ho, rfl⟩ (fun s' => typeIs_int s' 0 t) noFill_tuple_mul F.fills_int_mul F.slot_int_rmul repeat_tuple F.slot_int_index.lookup
      (call_meets F.slot_int_rmul (typeIs_int s 0 t) F.entry_int_rmul (F.args_int_rmul_2 _ _) (int_rmul_tuple 0 t l its.toArray n dd sl)
        ⟨ho, rfl, ⟨_, ho, rfl⟩, call_meets F.slot_tuple_mul ⟨_, ho, rfl⟩ F.entry_tuple_mul (F.args_tuple_mul_2 _ _) (tuple_mul0 l its.toArray n dd sl t hi) ⟨ho, ?_⟩⟩)
    refine ⟨.ref s.heap.objs.size, _, I.laid (t' := s.toks) (o := .tup []) (fun b ob q => Heap.get?_push_of_some _ q) (Nat.le_refl _) ?_, rfl, q _ (I.hok.fresh (Nat.le_refl _))⟩
    exact ⟨by simp, [], .nil, IsTup.new _ _⟩
end L2
namespace Mi
open PySem L2 PyProof.Rows
/-- t * k of a tuple that is not empty, k from 0 to 1000 -/
@[simp] def mMulR : M2 := fun x y st => match x, y with
  | .tup ws, .int k => if ws ≠ [] ∧ 0 ≤ k ∧ k ≤ 1000 ∧ ws.length ≤ 1000 then .ok (.tup (List.replicate k.toNat ws).flatten) st else .stuck
  | _, _ => .stuck
theorem o_mulR {X : Cx} {Cl : Nat → Addr} {E : XK} : OpR X (binaryOp .Mult) (fun x y H Q => rRepT X.K x y H Q ∨ rRepS X.K x y H Q) ∧ SOp X.K Cl E (fun x y H Q => rRepT X.K x y H Q ∨ rRepS X.K x y H Q) mMulR := by
  refine ⟨op_repT.or op_repS, fun β H st x y v u Q hr rx ry h => ?_⟩
  unfold mMulR at h
  split at h
  · rename_i ws k
    split at h
    · rename_i hz
      obtain ⟨h0, h1, h2, h3⟩ := hz
      cases ry
      cases rx with
      | @tup p ws vs h4 r4 =>
        have hn : vs ≠ [] := fun e => h0 (by subst e; cases r4; rfl)
        by_cases k2 : 2 ≤ k
        · exact .inl ⟨p, _, vs, rfl, rfl, h4, hn, k2, h2, by rw [← r4.length]; exact h3, fun l hl => Po.tup h hr hl (r4.rep _)⟩
        · have : k = 0 ∨ k = 1 := by omega
          rcases this with rfl | rfl
          · exact .inr ⟨p, vs, rfl, h4, hn, .inr ⟨rfl, fun l hl => Po.tup h hr hl .nil⟩⟩
          · refine .inr ⟨p, vs, rfl, h4, hn, .inl ⟨rfl, PoG.val h hr (.tup h4 ?_)⟩⟩
            simpa using r4
    · exact h.elim
  · exact h.elim
end Mi
/-! The mirror layer, part O: bit_length; k in d, k not in d; (..) in d, (..) not in d, d[(..)]. -/
namespace Mi
open PySem L2 PyProof.Rows
@[simp] def mBits (o : ME) : ME := fun s st => (o s st).bind fun x st1 => match x with
  | .int i => .ok (.int ((Builtin.Int.intBits i : Nat) : Int)) st1
  | _ => .stuck
@[simp] def mDIn (k d : ME) : ME := fun s st => (k s st).bind fun y st1 => (d s st1).bind fun x st2 => match x with
  | .ref r => match st2[r]?, toKey y with
    | some (.dK kvs), some k => .ok (.bl (valW kvs k).isSome) st2
    | _, _ => .stuck
  | _ => .stuck
@[simp] def mDNotIn (k d : ME) : ME := fun s st => (k s st).bind fun y st1 => (d s st1).bind fun x st2 => match x with
  | .ref r => match st2[r]?, toKey y with
    | some (.dK kvs), some k => .ok (.bl (!(valW kvs k).isSome)) st2
    | _, _ => .stuck
  | _ => .stuck
@[simp] def mTIn (k : MA) (d : ME) : ME := fun s st => (k s st).bind fun ks st1 => if ks.length ≤ sizeLine then (d s st1).bind fun x st2 => match x with
  | .ref r => match st2[r]?, keysT ks with
    | some (.dT kvs), some k => .ok (.bl (valW kvs k).isSome) st2
    | _, _ => .stuck
  | _ => .stuck
  else .stuck
@[simp] def mTNotIn (k : MA) (d : ME) : ME := fun s st => (k s st).bind fun ks st1 => if ks.length ≤ sizeLine then (d s st1).bind fun x st2 => match x with
  | .ref r => match st2[r]?, keysT ks with
    | some (.dT kvs), some k => .ok (.bl (!(valW kvs k).isSome)) st2
    | _, _ => .stuck
  | _ => .stuck
  else .stuck
@[simp] def mTGet (d : ME) (k : MA) : ME := fun s st => (d s st).bind fun x st1 => (k s st1).bind fun ks st2 => match x with
  | .ref r => match st2[r]?, keysT ks with
    | some (.dT kvs), some k => match valW kvs k with
      | some w => if ks.length ≤ sizeLine then .ok w st2 else .stuck
      | none => .stuck
    | _, _ => .stuck
  | _ => .stuck
theorem RF.opt {K : PySem.W.Frag} {β : Bt} {H : Hp} {κ : Type} [DecidableEq κ] {k : κ} {kvs : List (κ × W)} {gs : List (κ × V)} (r : RF K β H kvs gs) : (valV gs k).isSome = (valW kvs k).isSome := by
  cases h : valW kvs k with
  | none => rw [r.valN h]; rfl
  | some w =>
    obtain ⟨v, hv, _⟩ := r.val h
    rw [hv]; rfl
section
variable {X : Cx} {Cl : Nat → Addr} {E : XK} {pos tpos apos : Pos} {o e i : Expr} {es : List Expr} {n : Nat} {mo md mi : ME} {mk : MA}
theorem je_bits (ho : JE X Cl E o mo) (hbase : attributeBase o "bit_length" X.env (eval o X.env) = eval o X.env := by rfl) (hline : (apos.endLine == pos.line) = true := by rfl) : JE X Cl E (.Call (.Attribute o "bit_length" apos) [] [] pos) (mBits mo) := by
  obtain ⟨_, p1, q1⟩ := ho.ex
  refine ⟨_, pe_bits p1 hbase hline, fun β H σ s st Q hr hs h => q1 β H σ s st _ hr hs (h.bind fun x st1 β1 H1 v _ e1 hr1 rx h1 => ?_)⟩
  cases x with
  | int i => cases rx; exact ⟨i, rfl, PoG.val h1 hr1 (.int _)⟩
  | _ => exact h1.elim
theorem se_din {ty td : TE} (q1 : SE X.K Cl E ty mi) (q2 : SE X.K Cl E td md) : SE X.K Cl E (tDIn ty td) (mDIn mi md) :=
  fun β H σ s st Q hr hs h => q1 β H σ s st _ hr hs (h.bind fun y st1 β1 H1 u _ e1 hr1 ry h1 => q2 β1 H1 σ s st1 _ hr1 (hs.ext e1) (h1.bind fun x st2 β2 H2 v _ e2 hr2 rx h2 => by
    cases x with
    | ref r =>
      simp only at h2
      split at h2
      · rename_i kvs k es ek
        obtain ⟨a, rfl, _, gs, hg, hrs⟩ := rx.atRef hr2 es (by intro z; cases z)
        exact ⟨a, _, rfl, .inl ⟨gs, k, .inl hg, toKey_ok (ry.ext e2) ek, rfl⟩, by rw [hrs.opt]; exact PoG.val h2 hr2 (.bl _)⟩
      · exact h2.elim
    | _ => exact h2.elim))
theorem se_dnotin {ty td : TE} (q1 : SE X.K Cl E ty mi) (q2 : SE X.K Cl E td md) : SE X.K Cl E (tDNotIn ty td) (mDNotIn mi md) :=
  fun β H σ s st Q hr hs h => q1 β H σ s st _ hr hs (h.bind fun y st1 β1 H1 u _ e1 hr1 ry h1 => q2 β1 H1 σ s st1 _ hr1 (hs.ext e1) (h1.bind fun x st2 β2 H2 v _ e2 hr2 rx h2 => by
    cases x with
    | ref r =>
      simp only at h2
      split at h2
      · rename_i kvs k es ek
        obtain ⟨a, rfl, _, gs, hg, hrs⟩ := rx.atRef hr2 es (by intro z; cases z)
        exact ⟨a, _, rfl, .inl ⟨gs, k, .inl hg, toKey_ok (ry.ext e2) ek, rfl⟩, by rw [hrs.opt]; exact PoG.val h2 hr2 (.bl _)⟩
      · exact h2.elim
    | _ => exact h2.elim))
theorem je_din (hu : X.A.units + 1 < cLine) (hi : JE X Cl E i mi) (ho : JE X Cl E o md) (hb : behindInMarks .In o = false := by rfl) : JE X Cl E (.Compare i [.In] [o] pos) (mDIn mi md) := by
  obtain ⟨_, p1, q1⟩ := hi.ex
  obtain ⟨_, p2, q2⟩ := ho.ex
  exact ⟨_, pe_cmp (pc_din hu p1 p2) hb, se_din q1 q2⟩
theorem jt_din (hu : X.A.units + 1 < cLine) (hi : JE X Cl E i mi) (ho : JE X Cl E o md) (hb : behindInMarks .In o = false := by rfl) : JT X Cl E (.Compare i [.In] [o] pos) (mTest (mDIn mi md)) := by
  obtain ⟨_, p1, q1⟩ := hi.ex
  obtain ⟨_, p2, q2⟩ := ho.ex
  exact ⟨_, pt_cmp (pc_din hu p1 p2) hb, st_test (se_din q1 q2)⟩
theorem je_dnotin (hu : X.A.units + 1 < cLine) (hi : JE X Cl E i mi) (ho : JE X Cl E o md) (hb : behindInMarks .NotIn o = false := by rfl) : JE X Cl E (.Compare i [.NotIn] [o] pos) (mDNotIn mi md) := by
  obtain ⟨_, p1, q1⟩ := hi.ex
  obtain ⟨_, p2, q2⟩ := ho.ex
  exact ⟨_, pe_cmp (pc_dnotin hu p1 p2) hb, se_dnotin q1 q2⟩
theorem jt_dnotin (hu : X.A.units + 1 < cLine) (hi : JE X Cl E i mi) (ho : JE X Cl E o md) (hb : behindInMarks .NotIn o = false := by rfl) : JT X Cl E (.Compare i [.NotIn] [o] pos) (mTest (mDNotIn mi md)) := by
  obtain ⟨_, p1, q1⟩ := hi.ex
  obtain ⟨_, p2, q2⟩ := ho.ex
  exact ⟨_, pt_cmp (pc_dnotin hu p1 p2) hb, st_test (se_dnotin q1 q2)⟩
theorem se_tin {ta : TA} {td : TE} (q1 : ∀ β H σ s st Q, HR X.K Cl β H st → SR X.K β H s σ → PoG X.K Cl (fun β H a b => RVs X.K β H a b) E β H Q (mk s st) → ta σ H Q) (q2 : SE X.K Cl E td md) : SE X.K Cl E (tDIn (tTup ta) td) (mTIn mk md) := by
  intro β H σ s st Q hr hs h
  refine q1 β H σ s st _ hr hs (h.bind fun ks st1 β1 H1 vs _ e1 hr1 rk h1 => ?_)
  split at h1
  · rename_i hz
    refine ⟨by rw [← rk.length]; exact hz, fun p hp => ?_⟩
    have ep : Ext X.K β1 H1 (β1.guard p) (upd H1 p (.tup vs)) := Ext.guard hp
    refine q2 (β1.guard p) _ σ s st1 _ (hr1.guard hp) ((hs.ext e1).ext ep) ((PoG.ext ep h1).bind fun x st2 β2 H2 v _ e2 hr2 rx h2 => ?_)
    cases x with
    | ref r =>
      simp only at h2
      split at h2
      · rename_i kvs k es ek
        obtain ⟨a, rfl, _, gs, hg, hrs⟩ := rx.atRef hr2 es (by intro z; cases z)
        refine ⟨a, _, rfl, .inr ⟨gs, k, p, .inl hg, rfl, ?_, rfl⟩, by rw [hrs.opt]; exact PoG.val h2 hr2 (.bl _)⟩
        have := (e2.prot p List.mem_cons_self _ upd_same).2
        rw [keysT_ok rk ek] at this
        exact this
      · exact h2.elim
    | _ => exact h2.elim
  · exact h1.elim
theorem se_tnotin {ta : TA} {td : TE} (q1 : ∀ β H σ s st Q, HR X.K Cl β H st → SR X.K β H s σ → PoG X.K Cl (fun β H a b => RVs X.K β H a b) E β H Q (mk s st) → ta σ H Q) (q2 : SE X.K Cl E td md) : SE X.K Cl E (tDNotIn (tTup ta) td) (mTNotIn mk md) := by
  intro β H σ s st Q hr hs h
  refine q1 β H σ s st _ hr hs (h.bind fun ks st1 β1 H1 vs _ e1 hr1 rk h1 => ?_)
  split at h1
  · rename_i hz
    refine ⟨by rw [← rk.length]; exact hz, fun p hp => ?_⟩
    have ep : Ext X.K β1 H1 (β1.guard p) (upd H1 p (.tup vs)) := Ext.guard hp
    refine q2 (β1.guard p) _ σ s st1 _ (hr1.guard hp) ((hs.ext e1).ext ep) ((PoG.ext ep h1).bind fun x st2 β2 H2 v _ e2 hr2 rx h2 => ?_)
    cases x with
    | ref r =>
      simp only at h2
      split at h2
      · rename_i kvs k es ek
        obtain ⟨a, rfl, _, gs, hg, hrs⟩ := rx.atRef hr2 es (by intro z; cases z)
        refine ⟨a, _, rfl, .inr ⟨gs, k, p, .inl hg, rfl, ?_, rfl⟩, by rw [hrs.opt]; exact PoG.val h2 hr2 (.bl _)⟩
        have := (e2.prot p List.mem_cons_self _ upd_same).2
        rw [keysT_ok rk ek] at this
        exact this
      · exact h2.elim
    | _ => exact h2.elim
  · exact h1.elim
theorem je_tin (hu : X.A.units + 1 < cLine) (hi : JA X Cl E es mk) (ho : JE X Cl E o md) (hb : behindInMarks .In o = false := by rfl) : JE X Cl E (.Compare (.Tuple es n tpos) [.In] [o] pos) (mTIn mk md) := by
  obtain ⟨_, p1, q1⟩ := hi.ex
  obtain ⟨_, p2, q2⟩ := ho.ex
  exact ⟨_, pe_cmp (pc_din hu (pe_tup p1) p2) hb, se_tin q1 q2⟩
theorem jt_tin (hu : X.A.units + 1 < cLine) (hi : JA X Cl E es mk) (ho : JE X Cl E o md) (hb : behindInMarks .In o = false := by rfl) : JT X Cl E (.Compare (.Tuple es n tpos) [.In] [o] pos) (mTest (mTIn mk md)) := by
  obtain ⟨_, p1, q1⟩ := hi.ex
  obtain ⟨_, p2, q2⟩ := ho.ex
  exact ⟨_, pt_cmp (pc_din hu (pe_tup p1) p2) hb, st_test (se_tin q1 q2)⟩
theorem je_tnotin (hu : X.A.units + 1 < cLine) (hi : JA X Cl E es mk) (ho : JE X Cl E o md) (hb : behindInMarks .NotIn o = false := by rfl) : JE X Cl E (.Compare (.Tuple es n tpos) [.NotIn] [o] pos) (mTNotIn mk md) := by
  obtain ⟨_, p1, q1⟩ := hi.ex
  obtain ⟨_, p2, q2⟩ := ho.ex
  exact ⟨_, pe_cmp (pc_dnotin hu (pe_tup p1) p2) hb, se_tnotin q1 q2⟩
theorem jt_tnotin (hu : X.A.units + 1 < cLine) (hi : JA X Cl E es mk) (ho : JE X Cl E o md) (hb : behindInMarks .NotIn o = false := by rfl) : JT X Cl E (.Compare (.Tuple es n tpos) [.NotIn] [o] pos) (mTest (mTNotIn mk md)) := by
  obtain ⟨_, p1, q1⟩ := hi.ex
  obtain ⟨_, p2, q2⟩ := ho.ex
  exact ⟨_, pt_cmp (pc_dnotin hu (pe_tup p1) p2) hb, st_test (se_tnotin q1 q2)⟩
theorem je_tget (hu : X.A.units + 1 < cLine) (ho : JE X Cl E o md) (hi : JA X Cl E es mk) (hs : NoSl (.Tuple es n tpos) := by exact fun _ _ => rfl) : JE X Cl E (.Subscript o (.Tuple es n tpos) pos) (mTGet md mk) := by
  obtain ⟨_, p1, q1⟩ := ho.ex
  obtain ⟨_, p2, q2⟩ := hi.ex
  refine ⟨_, pe_dget hu p1 (pe_tup p2) hs, fun β H σ s st Q hr hs h => q1 β H σ s st _ hr hs (h.bind fun x st1 β1 H1 v _ e1 hr1 rx1 h1 => q2 β1 H1 σ s st1 _ hr1 (hs.ext e1) (h1.bind fun ks st2 β2 H2 vs _ e2 hr2 rk h2 => ?_))⟩
  have rx := rx1.ext e2
  cases x with
  | ref j =>
    simp only at h2
    split at h2
    · rename_i kvs k es ek
      split at h2
      · rename_i w ew
        split at h2
        · rename_i hz
          refine ⟨by rw [← rk.length]; exact hz, fun p hp => ?_⟩
          have e3 : Ext X.K β2 H2 β2 (upd H2 p (.tup vs)) := Ext.new hp
          have hr3 : HR X.K Cl β2 (upd H2 p (.tup vs)) st2 := hr2.new hp
          obtain ⟨a, rfl, _, gs, hg, hrs⟩ := (rx.ext e3).atRef hr3 es (by intro z; cases z)
          obtain ⟨v, hv, rv⟩ := hrs.val ew
          exact ⟨a, v, rfl, .inr ⟨gs, k, p, .inl hg, rfl, by rw [upd_same, keysT_ok rk ek], hv.symm⟩, PoG.val (PoG.ext e3 h2) hr3 rv⟩
        · exact h2.elim
      · exact h2.elim
    · exact h2.elim
  | _ => exact h2.elim
end
/-- {} , a dict with numbers and texts as keys -/
@[simp] def mDNewK : ME := fun _ st => .ok (.ref st.length) (st ++ [.dK []])
theorem je_dnewK {X : Cx} {Cl : Nat → Addr} {E : XK} {pos : Pos} : JE X Cl E (.Dict [] [] pos) mDNewK :=
  ⟨_, pe_dnewK, fun β H σ s st Q hr hs h p hp => h _ _ _ (Ext.push hp) (hr.push hp ⟨[], upd_same, .nil⟩) (.ref (by rw [← hr.len]; exact push_last))⟩
end Mi

namespace Gn
open PySem L2 Mi
/-! ### the text by places -/
def top (i : Nat) : Stmt := PySem.Challenge.pw_onestepcourt_k48_turned_histories.main.body.getD i (.Pass ⟨0, 0, 0, 0⟩)
abbrev s_Machine_told : Stmt := inClass (top 33) 7
abbrev s_Memory_words : Stmt := inClass (top 10) 2
abbrev s_Machine_words : Stmt := inClass (top 33) 2
abbrev s_Memory_word : Stmt := inClass (top 10) 1
abbrev s_Machine_word : Stmt := inClass (top 33) 3
abbrev s_Machine_registers : Stmt := inClass (top 33) 1
abbrev s_Memory_root : Stmt := inClass (top 10) 3
abbrev s_Machine_root : Stmt := inClass (top 33) 5
abbrev s_Digests_kept : Stmt := inClass (top 38) 7
abbrev s_Digests_state : Stmt := inClass (top 38) 6
abbrev s_Machine_digest : Stmt := inClass (top 33) 6
abbrev s_Memory_path : Stmt := inClass (top 10) 4
abbrev s_Machine_path : Stmt := inClass (top 33) 4
abbrev s_name_of : Stmt := top 26
abbrev s_data_of : Stmt := top 27
abbrev s_wrapped : Stmt := top 13
abbrev s_compared : Stmt := top 14
abbrev s_op : Stmt := top 15
abbrev s_mark_of : Stmt := top 29
abbrev s_halted : Stmt := top 28
abbrev s_Digests_fold : Stmt := inClass (top 38) 5
abbrev s_Digests_leaf : Stmt := inClass (top 38) 4
abbrev s_pc_behind : Stmt := top 31
abbrev s_acc_behind : Stmt := top 30
abbrev s_done_by : Stmt := top 32
abbrev s_Memory_change : Stmt := inClass (top 10) 5
abbrev s_Machine_step : Stmt := inClass (top 33) 8
abbrev s_L_draws : Stmt := top 53
abbrev s_Digests_init : Stmt := inClass (top 38) 0
abbrev s_L_words : Stmt := top 54
abbrev s_folded : Stmt := top 6
abbrev s_Memory_init : Stmt := inClass (top 10) 0
abbrev s_Machine_init : Stmt := inClass (top 33) 0
abbrev s_first_registers : Stmt := top 24
abbrev s_out_of : Stmt := top 25
abbrev s_History_following : Stmt := inClass (top 51) 6
abbrev s_root_of : Stmt := top 7
abbrev s_History_init : Stmt := inClass (top 51) 0
abbrev s_opened : Stmt := top 43
abbrev s_L_run : Stmt := top 55
abbrev s_History_machine : Stmt := inClass (top 51) 7
abbrev s_History_digest : Stmt := inClass (top 51) 1
abbrev s_History_opening : Stmt := inClass (top 51) 4
abbrev s_History_row : Stmt := inClass (top 51) 8
abbrev s_History_root : Stmt := inClass (top 51) 2
abbrev s_path_of : Stmt := top 8
abbrev s_History_last_path : Stmt := inClass (top 51) 9
abbrev s_History_halves : Stmt := inClass (top 51) 3
abbrev s_History_end : Stmt := inClass (top 51) 5
abbrev s_must : Stmt := top 44
abbrev s_is_integer : Stmt := top 36
abbrev s_is_word : Stmt := top 37
abbrev s_Digests_is_digest : Stmt := inClass (top 38) 2
abbrev s_are_registers : Stmt := top 45
abbrev s_is_part : Stmt := top 46
abbrev s_is_opening : Stmt := top 47
abbrev s_root_by : Stmt := top 9
abbrev s_root_with : Stmt := top 48
abbrev s_step_of : Stmt := top 49
abbrev s_law : Stmt := top 56
/-! ### constants, mirrors -/
def w_FIRST_STATE : W := (W.int 3)
def w_ARGUMENTS : W := (W.int 1024)
def w_NAMES : W := (W.tup [(W.str "bad"), (W.str "halt"), (W.str "lit"), (W.str "load"), (W.str "store"), (W.str "loadx"), (W.str "storex"), (W.str "tox"), (W.str "index"), (W.str "bound"), (W.str "within"), (W.str "not"), (W.str "+"), (W.str "-"), (W.str "*"), (W.str "/"), (W.str "mod"), (W.str "=="), (W.str "!="), (W.str "<"), (W.str "<="), (W.str ">"), (W.str ">="), (W.str "jump"), (W.str "zero"), (W.str "some"), (W.str "call"), (W.str "back"), (W.str "tell")])
def w_PLACES : W := (W.int 256)
def w_CHANGERS : W := (W.tup [(W.str "store"), (W.str "storex"), (W.str "call")])
def w_READERS : W := (W.tup [(W.str "load"), (W.str "loadx"), (W.str "index"), (W.str "within"), (W.str "back")])
def w_SIGNS : W := (W.tup [(W.str "+"), (W.str "-"), (W.str "*"), (W.str "/"), (W.str "mod"), (W.str "=="), (W.str "!="), (W.str "<"), (W.str "<="), (W.str ">"), (W.str ">=")])
def w_MOST_WORD : W := (W.int 65535)
def w_MOST_TOLD : W := (W.int 16)
def w_FIRST_OUT : W := (W.int 7)
def w_MARKS : W := (W.tup [(W.str "long"), (W.str "done"), (W.str "divided"), (W.str "place"), (W.str "input"), (W.str "full"), (W.str "bad")])
def w_DEPTH : W := (W.int 8)
def z_MARKS : List Str := ["long", "done", "divided", "place", "input", "full", "bad"]
def b_Machine_told : MS :=
  (mRet (mFld 3 "_told" (mVar 0)))
def m_Machine_told : MF := mDef 1 0 b_Machine_told
def b_Memory_words : MS :=
  (mRet (mCB mTupleOf (mCons (mFld 2 "_words" (mVar 0)) mNil)))
def m_Memory_words : MF := mDef 1 0 b_Memory_words
def b_Machine_words : MS :=
  (mRet (mMeth 2 "words" 1 m_Memory_words (mFld 3 "_memory" (mVar 0)) mNil))
def m_Machine_words : MF := mDef 1 0 b_Machine_words
def b_Memory_word : MS :=
  (mRet (mOp mIx (mFld 2 "_words" (mVar 0)) (mVar 1)))
def m_Memory_word : MF := mDef 2 0 b_Memory_word
def b_Machine_word : MS :=
  (mRet (mMeth 2 "word" 2 m_Memory_word (mFld 3 "_memory" (mVar 0)) (mCons (mVar 1) mNil)))
def m_Machine_word : MF := mDef 2 0 b_Machine_word
def b_Machine_registers : MS :=
  (mRet (mFld 3 "_registers" (mVar 0)))
def m_Machine_registers : MF := mDef 1 0 b_Machine_registers
def b_Memory_root : MS :=
  (mRet (mOp mIx (mOp mIx (mFld 2 "_rows" (mVar 0)) (mUn mNeg (mC (W.int 1)))) (mC (W.int 0))))
def m_Memory_root : MF := mDef 1 0 b_Memory_root
def b_Machine_root : MS :=
  (mRet (mMeth 2 "root" 1 m_Memory_root (mFld 3 "_memory" (mVar 0)) mNil))
def m_Machine_root : MF := mDef 1 0 b_Machine_root
def b_Digests_kept : MS :=
  (mSeq (mAsg (mOp mMod (mVar 3) (mFld 0 "_modulus" (mVar 0))) (mGN 4))
  (mSeq (mIfS (mTest (mOp mNotN (mFld 0 "_book" (mVar 0)) (mC W.non))) mDead mSkip)
  (mRet (mVar 4))))
def m_Digests_kept : MF := mDef 4 1 b_Digests_kept
def l0_Digests_state : MS :=
  (mAsg (mOp mMod (mOp mAdd (mOp mAdd (mOp mMul (mOp mAdd (mVar 2) (mVar 3)) (mOp mAdd (mVar 2) (mC (W.int 48611)))) (mOp mMul (mC (W.int 52774)) (mVar 3))) (mC (W.int 19))) (mFld 0 "_modulus" (mVar 0))) (mGN 2))
def b_Digests_state : MS :=
  (mSeq (mAsg (mC w_FIRST_STATE) (mGN 2))
  (mSeq (mFor (mITup (mVar 1)) (mGN 3) l0_Digests_state)
  (mRet (mMeth 0 "_kept" 4 m_Digests_kept (mVar 0) (mCons (mC (W.str "state")) (mCons (mVar 1) (mCons (mVar 2) mNil)))))))
def m_Digests_state : MF := mDef 2 2 b_Digests_state
def b_Machine_digest : MS :=
  (mRet (mMeth 0 "state" 2 m_Digests_state (mFld 3 "_digests" (mVar 0)) (mCons (mOp mAdd (mFld 3 "_registers" (mVar 0)) (mTup (mCons (mMeth 3 "root" 1 m_Machine_root (mVar 0) mNil) mNil))) mNil)))
def m_Machine_digest : MF := mDef 1 0 b_Machine_digest
def l0_Memory_path : MS :=
  (mSeq (mDrop (mLM mApp (mVar 2) (mCons (mOp mIx (mVar 3) (mOp mXor (mVar 1) (mC (W.int 1)))) mNil)))
  (mAsg (mOp mFdiv (mVar 1) (mC (W.int 2))) (mGN 1)))
def b_Memory_path : MS :=
  (mSeq (mAsg (mLstS mNil) (mGN 2))
  (mSeq (mFor (mILst (mSl (mFld 2 "_rows" (mVar 0)) mNoPart (mPart (mUn mNeg (mC (W.int 1)))))) (mGN 3) l0_Memory_path)
  (mRet (mCB mTupleOf (mCons (mVar 2) mNil)))))
def m_Memory_path : MF := mDef 2 2 b_Memory_path
def b_Machine_path : MS :=
  (mRet (mMeth 2 "path" 2 m_Memory_path (mFld 3 "_memory" (mVar 0)) (mCons (mVar 1) mNil)))
def m_Machine_path : MF := mDef 2 0 b_Machine_path
def b_name_of : MS :=
  (mSeq (mAsg (mOp mFdiv (mVar 0) (mC w_ARGUMENTS)) (mGN 1))
  (mSeq (mIfS (mTest (mOp mLt (mVar 1) (mCB mLen (mCons (mC w_NAMES) mNil)))) (mRet (mOp mIx (mC w_NAMES) (mVar 1))) mSkip)
  (mRet (mC (W.str "bad")))))
def m_name_of : MF := mDef 1 1 b_name_of
def b_data_of : MS :=
  (mSeq (mAsg (mCall 1 m_name_of (mCons (mVar 1) mNil)) (mGN 2))
  (mSeq (mAsg (mOp mMod (mVar 1) (mC w_PLACES)) (mGN 3))
  (mSeq (mIfS (mTest (mOp mIn (mVar 2) (mTup (mCons (mC (W.str "loadx")) (mCons (mC (W.str "storex")) mNil))))) (mAsg (mOp mMod (mOp mAdd (mVar 3) (mOp mIx (mVar 0) (mC (W.int 2)))) (mC w_PLACES)) (mGN 3)) mSkip)
  (mSeq (mIfS (mTest (mOp mIn (mVar 2) (mC w_CHANGERS))) (mRet (mTup (mCons (mVar 3) (mCons (mC (W.bl true)) mNil)))) mSkip)
  (mSeq (mIfS (mTOr (mTest (mOp mIn (mVar 2) (mC w_READERS))) (mTest (mOp mIn (mVar 2) (mC w_SIGNS)))) (mRet (mTup (mCons (mVar 3) (mCons (mC (W.bl false)) mNil)))) mSkip)
  (mRet (mC W.non)))))))
def m_data_of : MF := mDef 2 2 b_data_of
def b_wrapped : MS :=
  (mRet (mOp mMod (mVar 0) (mOp mAdd (mC w_MOST_WORD) (mC (W.int 1)))))
def m_wrapped : MF := mDef 1 0 b_wrapped
def b_compared : MS :=
  (mSeq (mIfS (mTest (mOp mIn (mVar 0) (mTup (mCons (mC (W.str "<")) (mCons (mC (W.str "<=")) mNil))))) (mRet (mCB mInt (mCons (mOrV (mOp mLt (mVar 1) (mVar 2)) (mAndV (mOp mEq (mVar 0) (mC (W.str "<="))) (mOp mEq (mVar 1) (mVar 2)))) mNil))) mSkip)
  (mSeq (mIfS (mTest (mOp mIn (mVar 0) (mTup (mCons (mC (W.str ">")) (mCons (mC (W.str ">=")) mNil))))) (mRet (mCB mInt (mCons (mOrV (mOp mGt (mVar 1) (mVar 2)) (mAndV (mOp mEq (mVar 0) (mC (W.str ">="))) (mOp mEq (mVar 1) (mVar 2)))) mNil))) mSkip)
  (mRet (mCB mInt (mCons (mOp mEq (mOp mEq (mVar 1) (mVar 2)) (mOp mEq (mVar 0) (mC (W.str "==")))) mNil)))))
def m_compared : MF := mDef 3 0 b_compared
def b_op : MS :=
  (mSeq (mIfS (mTest (mOp mEq (mVar 0) (mC (W.str "+")))) (mRet (mCall 1 m_wrapped (mCons (mOp mAdd (mVar 1) (mVar 2)) mNil))) mSkip)
  (mSeq (mIfS (mTest (mOp mEq (mVar 0) (mC (W.str "-")))) (mRet (mCall 1 m_wrapped (mCons (mOp mSub (mVar 1) (mVar 2)) mNil))) mSkip)
  (mSeq (mIfS (mTest (mOp mEq (mVar 0) (mC (W.str "*")))) (mRet (mCall 1 m_wrapped (mCons (mOp mMul (mVar 1) (mVar 2)) mNil))) mSkip)
  (mSeq (mIfS (mTest (mOp mNotIn (mVar 0) (mTup (mCons (mC (W.str "/")) (mCons (mC (W.str "mod")) mNil))))) (mRet (mCall 3 m_compared (mCons (mVar 0) (mCons (mVar 1) (mCons (mVar 2) mNil))))) mSkip)
  (mSeq (mIfS (mTest (mOp mEq (mVar 2) (mC (W.int 0)))) (mRet (mC W.non)) mSkip)
  (mSeq (mIfS (mTest (mOp mEq (mVar 0) (mC (W.str "/")))) (mRet (mOp mFdiv (mVar 1) (mVar 2))) mSkip)
  (mRet (mOp mMod (mVar 1) (mVar 2)))))))))
def m_op : MF := mDef 3 0 b_op
def b_mark_of : MS :=
  (mSeq (mAsg (mVar 0) (mGTup 6 (mGCons (mGN 3) (mGCons (mGN 4) (mGCons (mGN 5) (mGCons (mGN 3) (mGCons (mGN 3) (mGCons (mGN 6) mGNil))))))))
  (mSeq (mAsg (mCall 1 m_name_of (mCons (mVar 1) mNil)) (mGN 7))
  (mSeq (mIfS (mTest (mOp mEq (mVar 7) (mC (W.str "bad")))) (mRet (mC (W.str "bad"))) mSkip)
  (mSeq (mIfS (mTest (mOp mEq (mVar 7) (mC (W.str "halt")))) (mRet (mC (W.str "done"))) mSkip)
  (mSeq (mIfS (mTAnd (mTest (mOp mEq (mVar 7) (mC (W.str "bound")))) (mTest (mOp mGe (mVar 5) (mOp mMod (mVar 1) (mC w_ARGUMENTS))))) (mRet (mC (W.str "place"))) mSkip)
  (mSeq (mIfS (mTAnd (mTest (mOp mEq (mVar 7) (mC (W.str "within")))) (mTest (mOp mGe (mVar 5) (mVar 2)))) (mRet (mC (W.str "input"))) mSkip)
  (mSeq (mIfS (mTAnd (mTest (mOp mIn (mVar 7) (mC w_SIGNS))) (mTest (mOp mIsN (mCall 3 m_op (mCons (mVar 7) (mCons (mVar 4) (mCons (mVar 2) mNil)))) (mC W.non)))) (mRet (mC (W.str "divided"))) mSkip)
  (mSeq (mIfS (mTAnd (mTest (mOp mEq (mVar 7) (mC (W.str "tell")))) (mTest (mOp mEq (mVar 6) (mC w_MOST_TOLD)))) (mRet (mC (W.str "full"))) mSkip)
  (mRet (mC W.non))))))))))
def m_mark_of : MF := mDef 3 5 b_mark_of
def b_halted : MS :=
  (mSeq (mAsg (mVar 0) (mGTup 6 (mGCons (mGN 2) (mGCons (mGN 3) (mGCons (mGN 4) (mGCons (mGN 5) (mGCons (mGN 6) (mGCons (mGN 7) mGNil))))))))
  (mRet (mTup (mCons (mVar 2) (mCons (mVar 3) (mCons (mVar 4) (mCons (mTix z_MARKS (mVar 1)) (mCons (mVar 6) (mCons (mVar 7) mNil)))))))))
def m_halted : MF := mDef 2 6 b_halted
def b_Digests_fold : MS :=
  (mSeq (mAsg (mOp mAdd (mOp mAdd (mOp mMul (mC (W.int 69621)) (mVar 1)) (mOp mMul (mC (W.int 16807)) (mVar 2))) (mC (W.int 5))) (mGN 3))
  (mRet (mMeth 0 "_kept" 4 m_Digests_kept (mVar 0) (mCons (mC (W.str "fold")) (mCons (mTup (mCons (mVar 1) (mCons (mVar 2) mNil))) (mCons (mOp mAdd (mOp mAdd (mOp mAdd (mOp mAdd (mOp mMul (mVar 2) (mVar 2)) (mOp mMul (mC (W.int 3)) (mVar 1))) (mOp mMul (mC (W.int 7)) (mVar 2))) (mC (W.int 1))) (mOp mMul (mVar 3) (mVar 3))) mNil))))))
def m_Digests_fold : MF := mDef 3 1 b_Digests_fold
def b_Digests_leaf : MS :=
  (mRet (mMeth 0 "_kept" 4 m_Digests_kept (mVar 0) (mCons (mC (W.str "leaf")) (mCons (mVar 1) (mCons (mOp mAdd (mOp mMul (mC (W.int 48271)) (mVar 1)) (mC (W.int 11))) mNil)))))
def m_Digests_leaf : MF := mDef 2 0 b_Digests_leaf
def b_pc_behind : MS :=
  (mSeq (mAsg (mCall 1 m_name_of (mCons (mVar 2) mNil)) (mGN 4))
  (mSeq (mAsg (mOp mMod (mVar 2) (mC w_PLACES)) (mGN 5))
  (mSeq (mIfS (mTOr (mTest (mOp mEq (mVar 4) (mC (W.str "jump")))) (mTOr (mTAnd (mTest (mOp mEq (mVar 4) (mC (W.str "zero")))) (mTest (mOp mEq (mVar 1) (mC (W.int 0))))) (mTAnd (mTest (mOp mEq (mVar 4) (mC (W.str "some")))) (mTest (mOp mNe (mVar 1) (mC (W.int 0))))))) (mRet (mVar 5)) mSkip)
  (mSeq (mIfS (mTest (mOp mEq (mVar 4) (mC (W.str "call")))) (mRet (mOp mMod (mOp mAdd (mVar 5) (mC (W.int 1))) (mC w_PLACES))) mSkip)
  (mSeq (mIfS (mTest (mOp mEq (mVar 4) (mC (W.str "back")))) (mRet (mOp mMod (mVar 3) (mC w_PLACES))) mSkip)
  (mRet (mOp mMod (mOp mAdd (mVar 0) (mC (W.int 1))) (mC w_PLACES))))))))
def m_pc_behind : MF := mDef 4 2 b_pc_behind
def b_acc_behind : MS :=
  (mSeq (mIfS (mTest (mOp mEq (mVar 1) (mC (W.str "lit")))) (mRet (mVar 2)) mSkip)
  (mSeq (mIfS (mTest (mOp mIn (mVar 1) (mTup (mCons (mC (W.str "load")) (mCons (mC (W.str "loadx")) mNil))))) (mRet (mVar 3)) mSkip)
  (mSeq (mIfS (mTest (mOp mEq (mVar 1) (mC (W.str "not")))) (mRet (mCB mInt (mCons (mOp mEq (mVar 0) (mC (W.int 0))) mNil))) mSkip)
  (mSeq (mIfS (mTest (mOp mIn (mVar 1) (mC w_SIGNS))) (mRet (mCall 3 m_op (mCons (mVar 1) (mCons (mVar 0) (mCons (mVar 3) mNil))))) mSkip)
  (mRet (mVar 0))))))
def m_acc_behind : MF := mDef 4 0 b_acc_behind
def b_done_by : MS :=
  (mSeq (mAsg (mCall 3 m_mark_of (mCons (mVar 1) (mCons (mVar 2) (mCons (mVar 3) mNil)))) (mGN 4))
  (mSeq (mIfS (mTest (mOp mNotN (mVar 4) (mC W.non))) (mRet (mTup (mCons (mCall 2 m_halted (mCons (mVar 1) (mCons (mVar 4) mNil))) (mCons (mC W.non) mNil)))) mSkip)
  (mSeq (mAsg (mVar 1) (mGTup 6 (mGCons (mGN 5) (mGCons (mGN 6) (mGCons (mGN 7) (mGCons (mGN 8) (mGCons (mGN 9) (mGCons (mGN 10) mGNil))))))))
  (mSeq (mAsg (mCall 1 m_name_of (mCons (mVar 2) mNil)) (mGN 11))
  (mSeq (mAsg (mC W.non) (mGN 12))
  (mSeq (mIfS (mTest (mOp mIn (mVar 11) (mTup (mCons (mC (W.str "store")) (mCons (mC (W.str "storex")) mNil))))) (mAsg (mVar 6) (mGN 12)) mSkip)
  (mSeq (mIfS (mTest (mOp mEq (mVar 11) (mC (W.str "call")))) (mAsg (mOp mMod (mOp mAdd (mVar 5) (mC (W.int 1))) (mC w_PLACES)) (mGN 12)) mSkip)
  (mSeq (mIfS (mTest (mOp mEq (mVar 11) (mC (W.str "tox")))) (mAsg (mVar 6) (mGN 7)) mSkip)
  (mSeq (mIfS (mTest (mOp mEq (mVar 11) (mC (W.str "index")))) (mAsg (mVar 3) (mGN 7)) mSkip)
  (mSeq (mIfS (mTest (mOp mEq (mVar 11) (mC (W.str "tell")))) (mSeq (mAsg (mMeth 0 "fold" 3 m_Digests_fold (mVar 0) (mCons (mVar 9) (mCons (mMeth 0 "leaf" 2 m_Digests_leaf (mVar 0) (mCons (mVar 6) mNil)) mNil))) (mGN 9))
  (mAug 10 (mC (W.int 1)) (fun i j => i + j))) mSkip)
  (mSeq (mAsg (mCall 4 m_pc_behind (mCons (mVar 5) (mCons (mVar 6) (mCons (mVar 2) (mCons (mVar 3) mNil))))) (mGN 13))
  (mRet (mTup (mCons (mTup (mCons (mVar 13) (mCons (mCall 4 m_acc_behind (mCons (mVar 6) (mCons (mVar 11) (mCons (mOp mMod (mVar 2) (mC w_ARGUMENTS)) (mCons (mVar 3) mNil))))) (mCons (mVar 7) (mCons (mC (W.int 0)) (mCons (mVar 9) (mCons (mVar 10) mNil))))))) (mCons (mVar 12) mNil)))))))))))))))
def m_done_by : MF := mDef 4 10 b_done_by
def l0_Memory_change : MS :=
  (mSeq (mAsg (mVar 3) (mGSub (mVar 4) (mVar 1)))
  (mSeq (mAsg (mOp mSub (mVar 1) (mOp mMod (mVar 1) (mC (W.int 2)))) (mGN 5))
  (mSeq (mAsg (mMeth 0 "fold" 3 m_Digests_fold (mFld 2 "_digests" (mVar 0)) (mCons (mOp mIx (mVar 4) (mVar 5)) (mCons (mOp mIx (mVar 4) (mOp mAdd (mVar 5) (mC (W.int 1)))) mNil))) (mGN 3))
  (mAsg (mOp mFdiv (mVar 1) (mC (W.int 2))) (mGN 1)))))
def b_Memory_change : MS :=
  (mSeq (mAsg (mVar 2) (mGSub (mFld 2 "_words" (mVar 0)) (mVar 1)))
  (mSeq (mAsg (mMeth 0 "leaf" 2 m_Digests_leaf (mFld 2 "_digests" (mVar 0)) (mCons (mVar 2) mNil)) (mGN 3))
  (mSeq (mFor (mILst (mSl (mFld 2 "_rows" (mVar 0)) mNoPart (mPart (mUn mNeg (mC (W.int 1)))))) (mGN 4) l0_Memory_change)
  (mAsg (mLstS (mCons (mVar 3) mNil)) (mGSub (mFld 2 "_rows" (mVar 0)) (mUn mNeg (mC (W.int 1))))))))
def m_Memory_change : MF := mDef 3 3 b_Memory_change
def b_Machine_step : MS :=
  (mSeq (mAsg (mFld 3 "_registers" (mVar 0)) (mGN 1))
  (mSeq (mIfS (mTest (mOp mNe (mOp mIx (mVar 1) (mC (W.int 3))) (mC (W.int 0)))) mRetN mSkip)
  (mSeq (mAsg (mMeth 2 "word" 2 m_Memory_word (mFld 3 "_memory" (mVar 0)) (mCons (mOp mIx (mVar 1) (mC (W.int 0))) mNil)) (mGN 2))
  (mSeq (mAsg (mCall 2 m_data_of (mCons (mVar 1) (mCons (mVar 2) mNil))) (mGN 3))
  (mSeq (mAsg (mC W.non) (mGN 4))
  (mSeq (mIfS (mTest (mOp mNotN (mVar 3) (mC W.non))) (mAsg (mMeth 2 "word" 2 m_Memory_word (mFld 3 "_memory" (mVar 0)) (mCons (mOp mIx (mVar 3) (mC (W.int 0))) mNil)) (mGN 4)) mSkip)
  (mSeq (mAsg (mCall 4 m_done_by (mCons (mFld 3 "_digests" (mVar 0)) (mCons (mVar 1) (mCons (mVar 2) (mCons (mVar 4) mNil))))) (mGTup 2 (mGCons (mGFld 3 "_registers" (mVar 0)) (mGCons (mGN 5) mGNil))))
  (mSeq (mIfS (mTest (mOp mNotN (mVar 5) (mC W.non))) (mDrop (mMeth 2 "change" 3 m_Memory_change (mFld 3 "_memory" (mVar 0)) (mCons (mOp mIx (mVar 3) (mC (W.int 0))) (mCons (mVar 5) mNil)))) mSkip)
  (mIfS (mTest (mOp mGt (mOp mIx (mFld 3 "_registers" (mVar 0)) (mC (W.int 5))) (mOp mIx (mVar 1) (mC (W.int 5))))) (mSetF 3 "_told" (mVar 0) (mOp mAdd (mFld 3 "_told" (mVar 0)) (mTup (mCons (mOp mIx (mVar 1) (mC (W.int 1))) mNil)))) mSkip)))))))))
def m_Machine_step : MF := mDef 1 5 b_Machine_step
def l0_L_draws : MS :=
  (mSeq (mIfS (mTest (mOp mGt (mVar 5) (mC (W.int 0)))) (mDrop (mLM mApp (mVar 3) (mCons (mOp mMod (mCB mInt (mCons (mVar 5) mNil)) (mOp mPow (mC (W.int 10)) (mC (W.int 14)))) mNil))) mSkip)
  (mAsg (mOp mFdiv (mVar 5) (mOp mPow (mC (W.int 10)) (mC (W.int 14)))) (mGN 5)))
def l1_L_draws : MS :=
  (mSeq (mAsg (mCB mAbs (mCons (mCB mInt (mCons (mVar 4) mNil)) mNil)) (mGN 5))
  (mIfS (mTest (mOp mLt (mVar 5) (mOp mPow (mC (W.int 10)) (mC (W.int 18))))) (mSeq (mAsg (mOp mMod (mCB mInt (mCons (mOp mAdd (mOp mMul (mVar 5) (mC (W.int 48611))) (mC (W.int 43))) mNil)) (mC (W.int 2147483647))) (mGN 6))
  (mSeq (mDrop (mLM mApp (mVar 3) (mCons (mOp mAdd (mOp mMul (mVar 6) (mC (W.int 2147483629))) (mOp mMod (mCB mInt (mCons (mOp mAdd (mOp mMul (mVar 6) (mC (W.int 16807))) (mVar 5)) mNil)) (mC (W.int 2147483629)))) mNil)))
  (mDrop (mLM mApp (mVar 3) (mCons (mOp mAdd (mOp mMul (mOp mMod (mCB mInt (mCons (mOp mAdd (mOp mAdd (mOp mMul (mVar 6) (mC (W.int 69621))) (mOp mFdiv (mVar 5) (mC (W.int 9)))) (mC (W.int 3))) mNil)) (mC (W.int 2147483399))) (mC (W.int 7919))) (mOp mMod (mVar 5) (mC (W.int 7919)))) mNil))))) (mFor (mIRng1 (mCons (mC (W.int 12)) mNil)) (mGN 7) l0_L_draws)))
def b_L_draws : MS :=
  (mSeq (mAsg (mLstS mNil) (mGN 3))
  (mSeq (mFor (mILst (mSl (mVar 0) (mPart (mVar 1)) mNoPart)) (mGN 4) l1_L_draws)
  (mRet (mSl (mVar 3) mNoPart (mPart (mVar 2))))))
def m_L_draws : MF := mDef 3 5 b_L_draws
def b_Digests_init : MS :=
  (mSeq (mSetF 0 "_bits" (mVar 0) (mVar 1))
  (mSeq (mSetF 0 "_modulus" (mVar 0) (mOp mSub (mOp mShl (mC (W.int 1)) (mVar 1)) (mC (W.int 1))))
  (mSetF 0 "_book" (mVar 0) (mVar 2))))
def m_Digests_init : MF := mDef 3 0 b_Digests_init
def l0_L_words : MS :=
  (mSeq (mAsg (mOp mAdd (mOp mFdiv (mOp mIx (mVar 0) (mOp mMod (mVar 3) (mCB mLen (mCons (mVar 0) mNil)))) (mOp mAdd (mVar 3) (mC (W.int 1)))) (mOp mMul (mC (W.int 7)) (mVar 3))) (mGN 4))
  (mSeq (mAsg (mOp mIx (mLst (mCons (mC (W.int 2)) (mCons (mC (W.int 3)) (mCons (mC (W.int 4)) (mCons (mC (W.int 12)) (mCons (mC (W.int 13)) (mCons (mC (W.int 14)) (mCons (mC (W.int 15)) (mCons (mC (W.int 28)) (mCons (mC (W.int 28)) (mCons (mC (W.int 23)) (mCons (mC (W.int 24)) (mCons (mC (W.int 25)) (mCons (mC (W.int 5)) (mCons (mC (W.int 6)) (mCons (mC (W.int 7)) (mCons (mC (W.int 8)) (mCons (mC (W.int 9)) (mCons (mC (W.int 10)) (mCons (mC (W.int 11)) (mCons (mC (W.int 26)) (mCons (mC (W.int 27)) (mCons (mC (W.int 16)) (mCons (mC (W.int 17)) (mCons (mC (W.int 18)) (mCons (mC (W.int 21)) mNil)))))))))))))))))))))))))) (mOp mMod (mVar 4) (mC (W.int 25)))) (mGN 5))
  (mDrop (mLM mApp (mVar 2) (mCons (mOp mAdd (mOp mMul (mC (W.int 1024)) (mVar 5)) (mOp mMod (mOp mFdiv (mVar 4) (mC (W.int 25))) (mOp mIx (mLst (mCons (mC (W.int 256)) (mCons (mC (W.int 40)) (mCons (mC (W.int 1024)) mNil)))) (mOp mMod (mOp mFdiv (mVar 4) (mC (W.int 7000))) (mC (W.int 3)))))) mNil)))))
def b_L_words : MS :=
  (mSeq (mAsg (mLstS mNil) (mGN 2))
  (mSeq (mFor (mIRng1 (mCons (mVar 1) mNil)) (mGN 3) l0_L_words)
  (mRet (mCB mTupleOf (mCons (mOp mAdd (mVar 2) (mOp mMul (mLst (mCons (mC (W.int 0)) mNil)) (mOp mSub (mC (W.int 256)) (mVar 1)))) mNil)))))
def m_L_words : MF := mDef 2 4 b_L_words
def e0_folded : ME :=
  (mMeth 0 "fold" 3 m_Digests_fold (mVar 0) (mCons (mOp mIx (mVar 1) (mVar 2)) (mCons (mOp mIx (mVar 1) (mOp mAdd (mVar 2) (mC (W.int 1)))) mNil)))
def b_folded : MS :=
  (mRet (mLcS (mIRngC (mCons (mC (W.int 0)) (mCons (mCB mLen (mCons (mVar 1) mNil)) (mCons (mC (W.int 2)) mNil)))) (.nm 2) mYes e0_folded [2]))
def m_folded : MF := mDef 2 1 b_folded
def e0_Memory_init : ME :=
  (mMeth 0 "leaf" 2 m_Digests_leaf (mVar 1) (mCons (mVar 3) mNil))
def t1_Memory_init : MT :=
  (mTest (mOp mGt (mCB mLen (mCons (mOp mIx (mFld 2 "_rows" (mVar 0)) (mUn mNeg (mC (W.int 1)))) mNil)) (mC (W.int 1))))
def l2_Memory_init : MS :=
  (mDrop (mLM mApp (mFld 2 "_rows" (mVar 0)) (mCons (mCall 2 m_folded (mCons (mVar 1) (mCons (mOp mIx (mFld 2 "_rows" (mVar 0)) (mUn mNeg (mC (W.int 1)))) mNil))) mNil)))
def b_Memory_init : MS :=
  (mSeq (mSetF 2 "_digests" (mVar 0) (mVar 1))
  (mSeq (mSetF 2 "_words" (mVar 0) (mOp mAddS (mCB mListOf (mCons (mVar 2) mNil)) (mOp mMul (mLst (mCons (mC (W.int 0)) mNil)) (mOp mSub (mC w_PLACES) (mCB mLen (mCons (mVar 2) mNil))))))
  (mSeq (mSetF 2 "_rows" (mVar 0) (mLstS (mCons (mLcS (mILst (mFld 2 "_words" (mVar 0))) (.nm 3) mYes e0_Memory_init [3]) mNil)))
  (mWhileN t1_Memory_init l2_Memory_init 9))))
def m_Memory_init : MF := mDef 3 1 b_Memory_init
def b_Machine_init : MS :=
  (mSeq (mSetF 3 "_digests" (mVar 0) (mVar 1))
  (mSeq (mSetF 3 "_registers" (mVar 0) (mVar 2))
  (mSeq (mSetF 3 "_memory" (mVar 0) (mMake 2 3 m_Memory_init (mCons (mVar 1) (mCons (mVar 3) mNil))))
  (mSetF 3 "_told" (mVar 0) (mTup mNil)))))
def m_Machine_init : MF := mDef 4 0 b_Machine_init
def b_first_registers : MS :=
  (mRet (mTup (mCons (mC (W.int 0)) (mCons (mC (W.int 0)) (mCons (mC (W.int 0)) (mCons (mC (W.int 0)) (mCons (mC w_FIRST_OUT) (mCons (mC (W.int 0)) mNil))))))))
def m_first_registers : MF := mDef 0 0 b_first_registers
def l0_out_of : MS :=
  (mAsg (mMeth 0 "fold" 3 m_Digests_fold (mVar 0) (mCons (mVar 2) (mCons (mMeth 0 "leaf" 2 m_Digests_leaf (mVar 0) (mCons (mVar 3) mNil)) mNil))) (mGN 2))
def b_out_of : MS :=
  (mSeq (mAsg (mC w_FIRST_OUT) (mGN 2))
  (mSeq (mFor (mITup (mVar 1)) (mGN 3) l0_out_of)
  (mRet (mVar 2))))
def m_out_of : MF := mDef 2 2 b_out_of
def b_History_following : MS :=
  (mSeq (mAsg (mMeth 3 "told" 1 m_Machine_told (mVar 1) mNil) (mGN 4))
  (mSeq (mDrop (mMeth 3 "step" 1 m_Machine_step (mVar 1) mNil))
  (mSeq (mAsg (mOp mAdd (mVar 3) (mSl (mMeth 3 "told" 1 m_Machine_told (mVar 1) mNil) (mPart (mCB mLen (mCons (mVar 4) mNil))) mNoPart)) (mGN 3))
  (mSeq (mIfS (mTOr (mTest (mOp mIsN (mFld 4 "_turn" (mVar 0)) (mC W.non))) (mTest (mOp mNe (mOp mIx (mFld 4 "_turn" (mVar 0)) (mC (W.int 1))) (mOp mAdd (mVar 2) (mC (W.int 1)))))) (mRet (mTup (mCons (mVar 1) (mCons (mVar 3) mNil)))) mSkip)
  (mSeq (mIfS (mTest (mOp mEq (mOp mIx (mFld 4 "_turn" (mVar 0)) (mC (W.int 0))) (mC (W.str "word")))) (mSeq (mAsg (mCB mListOfS (mCons (mMeth 3 "words" 1 m_Machine_words (mVar 1) mNil) mNil)) (mGN 5))
  (mSeq (mAsg (mOp mIx (mFld 4 "_turn" (mVar 0)) (mC (W.int 3))) (mGSub (mVar 5) (mOp mIx (mFld 4 "_turn" (mVar 0)) (mC (W.int 2)))))
  (mRet (mTup (mCons (mMake 3 4 m_Machine_init (mCons (mFld 4 "_digests" (mVar 0)) (mCons (mMeth 3 "registers" 1 m_Machine_registers (mVar 1) mNil) (mCons (mCB mTupleOf (mCons (mVar 5) mNil)) mNil)))) (mCons (mVar 3) mNil)))))) mSkip)
  (mSeq (mAsg (mOp mIx (mFld 4 "_turn" (mVar 0)) (mC (W.int 2))) (mGN 3))
  (mSeq (mAsg (mSl (mMeth 3 "registers" 1 m_Machine_registers (mVar 1) mNil) mNoPart (mPart (mC (W.int 3)))) (mGTup 3 (mGCons (mGN 6) (mGCons (mGN 7) (mGCons (mGN 8) mGNil)))))
  (mSeq (mAsg (mTup (mCons (mVar 6) (mCons (mVar 7) (mCons (mVar 8) (mCons (mTix z_MARKS (mC (W.str "done"))) (mCons (mCall 2 m_out_of (mCons (mFld 4 "_digests" (mVar 0)) (mCons (mVar 3) mNil))) (mCons (mCB mLen (mCons (mVar 3) mNil)) mNil))))))) (mGN 9))
  (mRet (mTup (mCons (mMake 3 4 m_Machine_init (mCons (mFld 4 "_digests" (mVar 0)) (mCons (mVar 9) (mCons (mMeth 3 "words" 1 m_Machine_words (mVar 1) mNil) mNil)))) (mCons (mVar 3) mNil))))))))))))
def m_History_following : MF := mDef 4 6 b_History_following
def t0_root_of : MT :=
  (mTest (mOp mGt (mCB mLen (mCons (mVar 1) mNil)) (mC (W.int 1))))
def l1_root_of : MS :=
  (mAsg (mCall 2 m_folded (mCons (mVar 0) (mCons (mVar 1) mNil))) (mGN 1))
def b_root_of : MS :=
  (mSeq (mAsg (mCB mListOfS (mCons (mVar 1) mNil)) (mGN 1))
  (mSeq (mWhileN t0_root_of l1_root_of 9)
  (mRet (mOp mIx (mVar 1) (mC (W.int 0))))))
def m_root_of : MF := mDef 2 0 b_root_of
def l0_History_init : MS :=
  (mSeq (mAsg (mMeth 4 "_following" 4 m_History_following (mVar 0) (mCons (mVar 5) (mCons (mVar 9) (mCons (mVar 6) mNil)))) (mGTup 2 (mGCons (mGN 5) (mGCons (mGN 6) mGNil))))
  (mDrop (mLM mApp (mVar 8) (mCons (mMeth 3 "digest" 1 m_Machine_digest (mVar 5) mNil) mNil))))
def l1_History_init : MS :=
  (mSeq (mDrop (mLM mApp (mFld 4 "_states" (mVar 0)) (mCons (mTup (mCons (mMeth 3 "registers" 1 m_Machine_registers (mVar 5) mNil) (mCons (mMeth 3 "words" 1 m_Machine_words (mVar 5) mNil) mNil))) mNil)))
  (mSeq (mAsg (mLstS mNil) (mGN 8))
  (mSeq (mFor (mIRng2 (mCons (mVar 7) (mCons (mOp mAdd (mVar 7) (mFld 4 "_block" (mVar 0))) mNil))) (mGN 9) l0_History_init)
  (mDrop (mLM mApp (mFld 4 "_roots" (mVar 0)) (mCons (mCall 2 m_root_of (mCons (mVar 1) (mCons (mVar 8) mNil))) mNil))))))
def b_History_init : MS :=
  (mSeq (mSetF 4 "_digests" (mVar 0) (mVar 1))
  (mSeq (mSetF 4 "_turn" (mVar 0) (mVar 4))
  (mSeq (mSetF 4 "_count" (mVar 0) (mOp mShl (mC (W.int 1)) (mVar 3)))
  (mSeq (mSetF 4 "_level" (mVar 0) (mOp mFdiv (mVar 3) (mC (W.int 2))))
  (mSeq (mSetF 4 "_block" (mVar 0) (mOp mShl (mC (W.int 1)) (mFld 4 "_level" (mVar 0))))
  (mSeq (mSetF 4 "_states" (mVar 0) (mLstS mNil))
  (mSeq (mSetF 4 "_roots" (mVar 0) (mLstS mNil))
  (mSeq (mSetF 4 "_halves" (mVar 0) mDNewT)
  (mSeq (mSetF 4 "_openings" (mVar 0) mDNewK)
  (mSeq (mAsg (mMake 3 4 m_Machine_init (mCons (mVar 1) (mCons (mCall 0 m_first_registers mNil) (mCons (mVar 2) mNil)))) (mGN 5))
  (mSeq (mAsg (mTup mNil) (mGN 6))
  (mSeq (mFor (mIRngC (mCons (mC (W.int 0)) (mCons (mFld 4 "_count" (mVar 0)) (mCons (mFld 4 "_block" (mVar 0)) mNil)))) (mGN 7) l1_History_init)
  (mSetF 4 "_end" (mVar 0) (mTup (mCons (mMeth 3 "digest" 1 m_Machine_digest (mVar 5) mNil) (mCons (mMeth 3 "registers" 1 m_Machine_registers (mVar 5) mNil) (mCons (mMeth 3 "root" 1 m_Machine_root (mVar 5) mNil) (mCons (mVar 6) mNil))))))))))))))))))
def m_History_init : MF := mDef 5 5 b_History_init
def b_opened : MS :=
  (mSeq (mAsg (mMeth 3 "registers" 1 m_Machine_registers (mVar 0) mNil) (mGN 1))
  (mSeq (mAsg (mTup mNil) (mGN 2))
  (mSeq (mIfS (mTest (mOp mEq (mOp mIx (mVar 1) (mC (W.int 3))) (mC (W.int 0)))) (mSeq (mAsg (mMeth 3 "word" 2 m_Machine_word (mVar 0) (mCons (mOp mIx (mVar 1) (mC (W.int 0))) mNil)) (mGN 3))
  (mSeq (mAsg (mTup (mCons (mTup (mCons (mVar 3) (mCons (mMeth 3 "path" 2 m_Machine_path (mVar 0) (mCons (mOp mIx (mVar 1) (mC (W.int 0))) mNil)) mNil))) mNil)) (mGN 2))
  (mSeq (mAsg (mCall 2 m_data_of (mCons (mVar 1) (mCons (mVar 3) mNil))) (mGN 4))
  (mIfS (mTest (mOp mNotN (mVar 4) (mC W.non))) (mAsg (mOp mAdd (mVar 2) (mTup (mCons (mTup (mCons (mMeth 3 "word" 2 m_Machine_word (mVar 0) (mCons (mOp mIx (mVar 4) (mC (W.int 0))) mNil)) (mCons (mMeth 3 "path" 2 m_Machine_path (mVar 0) (mCons (mOp mIx (mVar 4) (mC (W.int 0))) mNil)) mNil))) mNil))) (mGN 2)) mSkip)))) mSkip)
  (mRet (mTup (mCons (mVar 1) (mCons (mMeth 3 "root" 1 m_Machine_root (mVar 0) mNil) (mCons (mVar 2) mNil))))))))
def m_opened : MF := mDef 1 4 b_opened
def l0_L_run : MS :=
  (mSeq (mDrop (mLM mApp (mVar 7) (mCons (mCall 1 m_opened (mCons (mVar 4) mNil)) mNil)))
  (mSeq (mAsg (mCB mLen (mCons (mMeth 3 "told" 1 m_Machine_told (mVar 4) mNil) mNil)) (mGN 9))
  (mSeq (mDrop (mMeth 3 "step" 1 m_Machine_step (mVar 4) mNil))
  (mSeq (mAsg (mOp mAdd (mVar 5) (mSl (mMeth 3 "told" 1 m_Machine_told (mVar 4) mNil) (mPart (mVar 9)) mNoPart)) (mGN 5))
  (mSeq (mIfS (mTAnd (mTest (mOp mEq (mVar 8) (mOp mIx (mVar 3) (mC (W.int 1))))) (mTest (mOp mEq (mOp mIx (mVar 3) (mC (W.int 0))) (mC (W.str "word"))))) (mSeq (mAsg (mCB mListOfS (mCons (mMeth 3 "words" 1 m_Machine_words (mVar 4) mNil) mNil)) (mGN 1))
  (mSeq (mAsg (mOp mIx (mVar 3) (mC (W.int 3))) (mGSub (mVar 1) (mOp mIx (mVar 3) (mC (W.int 2)))))
  (mAsg (mMake 3 4 m_Machine_init (mCons (mVar 0) (mCons (mMeth 3 "registers" 1 m_Machine_registers (mVar 4) mNil) (mCons (mCB mTupleOf (mCons (mVar 1) mNil)) mNil)))) (mGN 4)))) mSkip)
  (mSeq (mIfS (mTAnd (mTest (mOp mEq (mVar 8) (mOp mIx (mVar 3) (mC (W.int 1))))) (mTest (mOp mEq (mOp mIx (mVar 3) (mC (W.int 0))) (mC (W.str "told"))))) (mSeq (mAsg (mOp mIx (mVar 3) (mC (W.int 2))) (mGN 5))
  (mSeq (mAsg (mOp mAdd (mSl (mMeth 3 "registers" 1 m_Machine_registers (mVar 4) mNil) mNoPart (mPart (mC (W.int 3)))) (mTup (mCons (mC (W.int 1)) (mCons (mCall 2 m_out_of (mCons (mVar 0) (mCons (mVar 5) mNil))) (mCons (mCB mLen (mCons (mVar 5) mNil)) mNil))))) (mGN 10))
  (mAsg (mMake 3 4 m_Machine_init (mCons (mVar 0) (mCons (mVar 10) (mCons (mMeth 3 "words" 1 m_Machine_words (mVar 4) mNil) mNil)))) (mGN 4)))) mSkip)
  (mDrop (mLM mApp (mVar 6) (mCons (mMeth 3 "digest" 1 m_Machine_digest (mVar 4) mNil) mNil)))))))))
def b_L_run : MS :=
  (mSeq (mAsg (mMake 3 4 m_Machine_init (mCons (mVar 0) (mCons (mCall 0 m_first_registers mNil) (mCons (mVar 1) mNil)))) (mGN 4))
  (mSeq (mAsg (mTup mNil) (mGN 5))
  (mSeq (mAsg (mLstS (mCons (mMeth 3 "digest" 1 m_Machine_digest (mVar 4) mNil) mNil)) (mGN 6))
  (mSeq (mAsg (mLstS mNil) (mGN 7))
  (mSeq (mFor (mIRng2 (mCons (mC (W.int 1)) (mCons (mOp mAdd (mVar 2) (mC (W.int 1))) mNil))) (mGN 8) l0_L_run)
  (mRet (mTup (mCons (mVar 6) (mCons (mVar 7) (mCons (mVar 4) (mCons (mVar 5) mNil)))))))))))
def m_L_run : MF := mDef 4 7 b_L_run
def l0_History_machine : MS :=
  (mAsg (mMeth 4 "_following" 4 m_History_following (mVar 0) (mCons (mVar 4) (mCons (mVar 5) (mCons (mTup mNil) mNil)))) (mGTup 2 (mGCons (mGN 4) (mGCons (mGN 6) mGNil))))
def b_History_machine : MS :=
  (mSeq (mAsg (mOp mIx (mFld 4 "_states" (mVar 0)) (mOp mFdiv (mVar 1) (mFld 4 "_block" (mVar 0)))) (mGTup 2 (mGCons (mGN 2) (mGCons (mGN 3) mGNil))))
  (mSeq (mAsg (mMake 3 4 m_Machine_init (mCons (mFld 4 "_digests" (mVar 0)) (mCons (mVar 2) (mCons (mVar 3) mNil)))) (mGN 4))
  (mSeq (mFor (mIRng2 (mCons (mOp mSub (mVar 1) (mOp mMod (mVar 1) (mFld 4 "_block" (mVar 0)))) (mCons (mVar 1) mNil))) (mGN 5) l0_History_machine)
  (mRet (mVar 4)))))
def m_History_machine : MF := mDef 2 5 b_History_machine
def b_History_digest : MS :=
  (mSeq (mIfS (mTest (mOp mEq (mVar 1) (mFld 4 "_count" (mVar 0)))) (mRet (mOp mIx (mFld 4 "_end" (mVar 0)) (mC (W.int 0)))) mSkip)
  (mRet (mMeth 3 "digest" 1 m_Machine_digest (mMeth 4 "_machine" 2 m_History_machine (mVar 0) (mCons (mVar 1) mNil)) mNil)))
def m_History_digest : MF := mDef 2 0 b_History_digest
def b_History_opening : MS :=
  (mSeq (mIfS (mTest (mDNotIn (mVar 1) (mFld 4 "_openings" (mVar 0)))) (mDPut (mFld 4 "_openings" (mVar 0)) (mVar 1) (mCall 1 m_opened (mCons (mMeth 4 "_machine" 2 m_History_machine (mVar 0) (mCons (mVar 1) mNil)) mNil))) mSkip)
  (mRet (mDGet (mFld 4 "_openings" (mVar 0)) (mVar 1))))
def m_History_opening : MF := mDef 2 0 b_History_opening
def l0_History_row : MS :=
  (mSeq (mAsg (mMeth 4 "_following" 4 m_History_following (mVar 0) (mCons (mVar 4) (mCons (mVar 6) (mCons (mTup mNil) mNil)))) (mGTup 2 (mGCons (mGN 4) (mGCons (mGN 7) mGNil))))
  (mDrop (mLM mApp (mVar 5) (mCons (mMeth 3 "digest" 1 m_Machine_digest (mVar 4) mNil) mNil))))
def b_History_row : MS :=
  (mSeq (mAsg (mOp mShl (mVar 2) (mVar 1)) (mGN 3))
  (mSeq (mAsg (mMeth 4 "_machine" 2 m_History_machine (mVar 0) (mCons (mVar 3) mNil)) (mGN 4))
  (mSeq (mAsg (mLstS mNil) (mGN 5))
  (mSeq (mFor (mIRng2 (mCons (mVar 3) (mCons (mOp mAdd (mVar 3) (mOp mShl (mC (W.int 1)) (mVar 1))) mNil))) (mGN 6) l0_History_row)
  (mRet (mVar 5))))))
def m_History_row : MF := mDef 3 5 b_History_row
def b_History_root : MS :=
  (mSeq (mIfS (mTest (mOp mLt (mVar 1) (mFld 4 "_level" (mVar 0)))) (mRet (mCall 2 m_root_of (mCons (mFld 4 "_digests" (mVar 0)) (mCons (mMeth 4 "_row" 3 m_History_row (mVar 0) (mCons (mVar 1) (mCons (mVar 2) mNil))) mNil)))) mSkip)
  (mSeq (mAsg (mOp mShl (mC (W.int 1)) (mOp mSub (mVar 1) (mFld 4 "_level" (mVar 0)))) (mGN 3))
  (mRet (mCall 2 m_root_of (mCons (mFld 4 "_digests" (mVar 0)) (mCons (mSl (mFld 4 "_roots" (mVar 0)) (mPart (mOp mMul (mVar 2) (mVar 3))) (mPart (mOp mMul (mOp mAdd (mVar 2) (mC (W.int 1))) (mVar 3)))) mNil))))))
def m_History_root : MF := mDef 3 1 b_History_root
def t0_path_of : MT :=
  (mTest (mOp mGt (mCB mLen (mCons (mVar 1) mNil)) (mC (W.int 1))))
def l1_path_of : MS :=
  (mSeq (mDrop (mLM mApp (mVar 3) (mCons (mOp mIx (mVar 1) (mOp mXor (mVar 2) (mC (W.int 1)))) mNil)))
  (mSeq (mAsg (mCall 2 m_folded (mCons (mVar 0) (mCons (mVar 1) mNil))) (mGN 1))
  (mAsg (mOp mFdiv (mVar 2) (mC (W.int 2))) (mGN 2))))
def b_path_of : MS :=
  (mSeq (mAsg (mCB mListOfS (mCons (mVar 1) mNil)) (mGN 1))
  (mSeq (mAsg (mLstS mNil) (mGN 3))
  (mSeq (mWhileN t0_path_of l1_path_of 9)
  (mRet (mCB mTupleOf (mCons (mVar 3) mNil))))))
def m_path_of : MF := mDef 3 1 b_path_of
def b_History_last_path : MS :=
  (mSeq (mIfS (mTest (mOp mLe (mVar 1) (mFld 4 "_level" (mVar 0)))) (mSeq (mAsg (mMeth 4 "_row" 3 m_History_row (mVar 0) (mCons (mVar 1) (mCons (mVar 2) mNil))) (mGN 3))
  (mRet (mCall 3 m_path_of (mCons (mFld 4 "_digests" (mVar 0)) (mCons (mVar 3) (mCons (mOp mSub (mCB mLen (mCons (mVar 3) mNil)) (mC (W.int 1))) mNil)))))) mSkip)
  (mSeq (mAsg (mOp mShl (mC (W.int 1)) (mOp mSub (mVar 1) (mFld 4 "_level" (mVar 0)))) (mGN 4))
  (mSeq (mAsg (mSl (mFld 4 "_roots" (mVar 0)) (mPart (mOp mMul (mVar 2) (mVar 4))) (mPart (mOp mMul (mOp mAdd (mVar 2) (mC (W.int 1))) (mVar 4)))) (mGN 5))
  (mSeq (mAsg (mMeth 4 "_row" 3 m_History_row (mVar 0) (mCons (mFld 4 "_level" (mVar 0)) (mCons (mOp mSub (mOp mMul (mOp mAdd (mVar 2) (mC (W.int 1))) (mVar 4)) (mC (W.int 1))) mNil))) (mGN 3))
  (mRet (mOp mAdd (mCall 3 m_path_of (mCons (mFld 4 "_digests" (mVar 0)) (mCons (mVar 3) (mCons (mOp mSub (mCB mLen (mCons (mVar 3) mNil)) (mC (W.int 1))) mNil)))) (mCall 3 m_path_of (mCons (mFld 4 "_digests" (mVar 0)) (mCons (mVar 5) (mCons (mOp mSub (mVar 4) (mC (W.int 1))) mNil))))))))))
def m_History_last_path : MF := mDef 3 3 b_History_last_path
def b_History_halves : MS :=
  (mSeq (mIfS (mTest (mTNotIn (mCons (mVar 1) (mCons (mVar 2) mNil)) (mFld 4 "_halves" (mVar 0)))) (mSeq (mAsg (mMeth 4 "root" 3 m_History_root (mVar 0) (mCons (mOp mSub (mVar 1) (mC (W.int 1))) (mCons (mOp mMul (mC (W.int 2)) (mVar 2)) mNil))) (mGN 3))
  (mSeq (mAsg (mMeth 4 "root" 3 m_History_root (mVar 0) (mCons (mOp mSub (mVar 1) (mC (W.int 1))) (mCons (mOp mAdd (mOp mMul (mC (W.int 2)) (mVar 2)) (mC (W.int 1))) mNil))) (mGN 4))
  (mSeq (mAsg (mMeth 4 "digest" 2 m_History_digest (mVar 0) (mCons (mOp mShl (mOp mAdd (mOp mMul (mC (W.int 2)) (mVar 2)) (mC (W.int 1))) (mOp mSub (mVar 1) (mC (W.int 1)))) mNil)) (mGN 5))
  (mTPut (mFld 4 "_halves" (mVar 0)) (mCons (mVar 1) (mCons (mVar 2) mNil)) (mTup (mCons (mVar 3) (mCons (mVar 4) (mCons (mVar 5) (mCons (mMeth 4 "_last_path" 3 m_History_last_path (mVar 0) (mCons (mOp mSub (mVar 1) (mC (W.int 1))) (mCons (mOp mMul (mC (W.int 2)) (mVar 2)) mNil))) mNil))))))))) mSkip)
  (mRet (mTGet (mFld 4 "_halves" (mVar 0)) (mCons (mVar 1) (mCons (mVar 2) mNil)))))
def m_History_halves : MF := mDef 3 3 b_History_halves
def b_History_end : MS :=
  (mSeq (mAsg (mBits (mOp mSub (mFld 4 "_count" (mVar 0)) (mC (W.int 1)))) (mGN 1))
  (mSeq (mAsg (mFld 4 "_end" (mVar 0)) (mGTup 4 (mGCons (mGN 2) (mGCons (mGN 3) (mGCons (mGN 4) (mGCons (mGN 5) mGNil))))))
  (mRet (mTup (mCons (mVar 2) (mCons (mMeth 4 "_last_path" 3 m_History_last_path (mVar 0) (mCons (mVar 1) (mCons (mC (W.int 0)) mNil))) (mCons (mVar 3) (mCons (mVar 4) (mCons (mVar 5) mNil)))))))))
def m_History_end : MF := mDef 1 5 b_History_end
def b_must : MS :=
  (mIfS (mTNot (mTru (mVar 0))) (mRaise 29) mSkip)
def m_must : MF := mDefX 1 0 b_must
def b_is_integer : MS :=
  (mRet (mAndV (mIsi "int" (mVar 0)) (mAndV (mNotV (mIsi "bool" (mVar 0))) (mChain mLe mLe (mVar 1) (mVar 0) (mVar 2)))))
def m_is_integer : MF := mDef 3 0 b_is_integer
def b_is_word : MS :=
  (mRet (mCall 3 m_is_integer (mCons (mVar 0) (mCons (mC (W.int 0)) (mCons (mC w_MOST_WORD) mNil)))))
def m_is_word : MF := mDef 1 0 b_is_word
def b_Digests_is_digest : MS :=
  (mRet (mCall 3 m_is_integer (mCons (mVar 1) (mCons (mC (W.int 0)) (mCons (mOp mSub (mFld 0 "_modulus" (mVar 0)) (mC (W.int 1))) mNil)))))
def m_Digests_is_digest : MF := mDef 2 0 b_Digests_is_digest
def b_are_registers : MS :=
  (mSeq (mIfS (mTOr (mTNot (mTru (mIsi "tuple" (mVar 1)))) (mTest (mOp mNe (mCB mLen (mCons (mVar 1) mNil)) (mC (W.int 6))))) (mRet (mC (W.bl false))) mSkip)
  (mSeq (mAsg (mVar 1) (mGTup 6 (mGCons (mGN 2) (mGCons (mGN 3) (mGCons (mGN 4) (mGCons (mGN 5) (mGCons (mGN 6) (mGCons (mGN 7) mGNil))))))))
  (mSeq (mIfS (mTOr (mTNot (mTru (mCall 3 m_is_integer (mCons (mVar 2) (mCons (mC (W.int 0)) (mCons (mOp mSub (mC w_PLACES) (mC (W.int 1))) mNil)))))) (mTOr (mTNot (mTru (mCall 1 m_is_word (mCons (mVar 3) mNil)))) (mTNot (mTru (mCall 1 m_is_word (mCons (mVar 4) mNil)))))) (mRet (mC (W.bl false))) mSkip)
  (mRet (mAndV (mCall 3 m_is_integer (mCons (mVar 5) (mCons (mC (W.int 0)) (mCons (mOp mSub (mCB mLen (mCons (mC w_MARKS) mNil)) (mC (W.int 1))) mNil)))) (mAndV (mMeth 0 "is_digest" 2 m_Digests_is_digest (mVar 0) (mCons (mVar 6) mNil)) (mCall 3 m_is_integer (mCons (mVar 7) (mCons (mC (W.int 0)) (mCons (mC w_MOST_TOLD) mNil))))))))))
def m_are_registers : MF := mDef 2 6 b_are_registers
def e0_is_part : ME :=
  (mMeth 0 "is_digest" 2 m_Digests_is_digest (mVar 0) (mCons (mVar 2) mNil))
def b_is_part : MS :=
  (mSeq (mIfS (mTOr (mTNot (mTru (mIsi "tuple" (mVar 1)))) (mTOr (mTest (mOp mNe (mCB mLen (mCons (mVar 1) mNil)) (mC (W.int 2)))) (mTNot (mTru (mCall 1 m_is_word (mCons (mOp mIx (mVar 1) (mC (W.int 0))) mNil)))))) (mRet (mC (W.bl false))) mSkip)
  (mSeq (mIfS (mTOr (mTNot (mTru (mIsi "tuple" (mOp mIx (mVar 1) (mC (W.int 1)))))) (mTest (mOp mNe (mCB mLen (mCons (mOp mIx (mVar 1) (mC (W.int 1))) mNil)) (mC w_DEPTH)))) (mRet (mC (W.bl false))) mSkip)
  (mRet (mCB mAll (mCons (mLc (mITup (mOp mIx (mVar 1) (mC (W.int 1)))) (.nm 2) mYes e0_is_part [2]) mNil)))))
def m_is_part : MF := mDef 2 1 b_is_part
def e0_is_opening : ME :=
  (mCall 2 m_is_part (mCons (mVar 0) (mCons (mVar 2) mNil)))
def b_is_opening : MS :=
  (mSeq (mIfS (mTOr (mTNot (mTru (mIsi "tuple" (mVar 1)))) (mTOr (mTest (mOp mNe (mCB mLen (mCons (mVar 1) mNil)) (mC (W.int 3)))) (mTNot (mTru (mIsi "tuple" (mOp mIx (mVar 1) (mC (W.int 2)))))))) (mRet (mC (W.bl false))) mSkip)
  (mSeq (mIfS (mTOr (mTNot (mTru (mCall 2 m_are_registers (mCons (mVar 0) (mCons (mOp mIx (mVar 1) (mC (W.int 0))) mNil))))) (mTNot (mTru (mMeth 0 "is_digest" 2 m_Digests_is_digest (mVar 0) (mCons (mOp mIx (mVar 1) (mC (W.int 1))) mNil))))) (mRet (mC (W.bl false))) mSkip)
  (mRet (mCB mAll (mCons (mLc (mITup (mOp mIx (mVar 1) (mC (W.int 2)))) (.nm 2) mYes e0_is_opening [2]) mNil)))))
def m_is_opening : MF := mDef 2 1 b_is_opening
def l0_root_by : MS :=
  (mSeq (mIfS (mTest (mOp mEq (mOp mMod (mVar 1) (mC (W.int 2))) (mC (W.int 0)))) (mAsg (mMeth 0 "fold" 3 m_Digests_fold (mVar 0) (mCons (mVar 4) (mCons (mVar 5) mNil))) (mGN 4)) (mAsg (mMeth 0 "fold" 3 m_Digests_fold (mVar 0) (mCons (mVar 5) (mCons (mVar 4) mNil))) (mGN 4)))
  (mAsg (mOp mFdiv (mVar 1) (mC (W.int 2))) (mGN 1)))
def b_root_by : MS :=
  (mSeq (mAsg (mVar 2) (mGN 4))
  (mSeq (mFor (mITup (mVar 3)) (mGN 5) l0_root_by)
  (mRet (mVar 4))))
def m_root_by : MF := mDef 4 2 b_root_by
def b_root_with : MS :=
  (mRet (mCall 4 m_root_by (mCons (mVar 0) (mCons (mVar 1) (mCons (mMeth 0 "leaf" 2 m_Digests_leaf (mVar 0) (mCons (mVar 2) mNil)) (mCons (mVar 3) mNil))))))
def m_root_with : MF := mDef 4 0 b_root_with
def b_step_of : MS :=
  (mSeq (mDrop (mCall 1 m_must (mCons (mCall 2 m_is_opening (mCons (mVar 0) (mCons (mVar 2) mNil))) mNil)))
  (mSeq (mAsg (mVar 2) (mGTup 3 (mGCons (mGN 3) (mGCons (mGN 4) (mGCons (mGN 5) mGNil)))))
  (mSeq (mDrop (mCall 1 m_must (mCons (mOp mEq (mMeth 0 "state" 2 m_Digests_state (mVar 0) (mCons (mOp mAdd (mVar 3) (mTup (mCons (mVar 4) mNil))) mNil)) (mVar 1)) mNil)))
  (mSeq (mIfS (mTest (mOp mNe (mOp mIx (mVar 3) (mC (W.int 3))) (mC (W.int 0)))) (mSeq (mDrop (mCall 1 m_must (mCons (mOp mEq (mVar 5) (mTup mNil)) mNil)))
  (mRet (mVar 1))) mSkip)
  (mSeq (mDrop (mCall 1 m_must (mCons (mOp mNe (mVar 5) (mTup mNil)) mNil)))
  (mSeq (mAsg (mOp mIx (mVar 5) (mC (W.int 0))) (mGTup 2 (mGCons (mGN 6) (mGCons (mGN 7) mGNil))))
  (mSeq (mAsg (mCall 2 m_data_of (mCons (mVar 3) (mCons (mVar 6) mNil))) (mGN 8))
  (mSeq (mDrop (mCall 1 m_must (mCons (mOp mEq (mCB mLen (mCons (mVar 5) mNil)) (mOp mAdd (mC (W.int 1)) (mCB mInt (mCons (mOp mNotN (mVar 8) (mC W.non)) mNil)))) mNil)))
  (mSeq (mDrop (mCall 1 m_must (mCons (mOp mEq (mCall 4 m_root_with (mCons (mVar 0) (mCons (mOp mIx (mVar 3) (mC (W.int 0))) (mCons (mVar 6) (mCons (mVar 7) mNil))))) (mVar 4)) mNil)))
  (mSeq (mAsg (mC W.non) (mGN 9))
  (mSeq (mIfS (mTest (mOp mNotN (mVar 8) (mC W.non))) (mSeq (mAsg (mOp mIx (mVar 5) (mC (W.int 1))) (mGTup 2 (mGCons (mGN 9) (mGCons (mGN 7) mGNil))))
  (mDrop (mCall 1 m_must (mCons (mOp mEq (mCall 4 m_root_with (mCons (mVar 0) (mCons (mOp mIx (mVar 8) (mC (W.int 0))) (mCons (mVar 9) (mCons (mVar 7) mNil))))) (mVar 4)) mNil)))) mSkip)
  (mSeq (mAsg (mCall 4 m_done_by (mCons (mVar 0) (mCons (mVar 3) (mCons (mVar 6) (mCons (mVar 9) mNil))))) (mGTup 2 (mGCons (mGN 10) (mGCons (mGN 11) mGNil))))
  (mSeq (mIfS (mTest (mOp mNotN (mVar 11) (mC W.non))) (mAsg (mCall 4 m_root_with (mCons (mVar 0) (mCons (mOp mIx (mVar 8) (mC (W.int 0))) (mCons (mVar 11) (mCons (mVar 7) mNil))))) (mGN 4)) mSkip)
  (mRet (mMeth 0 "state" 2 m_Digests_state (mVar 0) (mCons (mOp mAdd (mVar 10) (mTup (mCons (mVar 4) mNil))) mNil))))))))))))))))
def m_step_of : MF := mDefX 3 9 b_step_of
def e0_law : ME :=
  (mOp mMod (mOp mIx (mVar 1) (mOp mMod (mVar 8) (mCB mLen (mCons (mVar 1) mNil)))) (mC (W.int 65536)))
def l1_law : MS :=
  (mSeq (mAsg (mOp mMod (mVar 14) (mOp mAdd (mVar 5) (mC (W.int 1)))) (mGN 15))
  (mSeq (mIfS (mTest (mOp mNe (mMeth 4 "digest" 2 m_History_digest (mVar 9) (mCons (mVar 15) mNil)) (mOp mIx (mVar 10) (mVar 15)))) (mRet (mC (W.bl false))) mSkip)
  (mIfS (mTAnd (mTest (mOp mLt (mVar 15) (mVar 5))) (mTest (mOp mNe (mMeth 4 "opening" 2 m_History_opening (mVar 9) (mCons (mVar 15) mNil)) (mOp mIx (mVar 11) (mVar 15))))) (mRet (mC (W.bl false))) mSkip)))
def l2_law : MS :=
  (mSeq (mAsg (mSl (mVar 10) (mPart (mOp mAdd (mC (W.int 1)) (mOp mMul (mVar 18) (mVar 17)))) (mPart (mOp mAdd (mC (W.int 1)) (mOp mMul (mOp mAdd (mVar 18) (mC (W.int 1))) (mVar 17))))) (mGN 19))
  (mSeq (mIfS (mTest (mOp mNe (mMeth 4 "root" 3 m_History_root (mVar 9) (mCons (mVar 16) (mCons (mVar 18) mNil))) (mCall 2 m_root_of (mCons (mVar 2) (mCons (mVar 19) mNil))))) (mRet (mC (W.bl false))) mSkip)
  (mIfS (mTest (mOp mGt (mVar 16) (mC (W.int 0)))) (mSeq (mAsg (mSl (mVar 19) mNoPart (mPart (mOp mFdiv (mVar 17) (mC (W.int 2))))) (mGN 20))
  (mSeq (mAsg (mTup (mCons (mCall 2 m_root_of (mCons (mVar 2) (mCons (mVar 20) mNil))) (mCons (mCall 2 m_root_of (mCons (mVar 2) (mCons (mSl (mVar 19) (mPart (mOp mFdiv (mVar 17) (mC (W.int 2)))) mNoPart) mNil))) (mCons (mOp mIx (mVar 20) (mUn mNeg (mC (W.int 1)))) (mCons (mCall 3 m_path_of (mCons (mVar 2) (mCons (mVar 20) (mCons (mOp mSub (mCB mLen (mCons (mVar 20) mNil)) (mC (W.int 1))) mNil)))) mNil))))) (mGN 21))
  (mIfS (mTest (mOp mNe (mMeth 4 "halves" 3 m_History_halves (mVar 9) (mCons (mVar 16) (mCons (mVar 18) mNil))) (mVar 21))) (mRet (mC (W.bl false))) mSkip))) mSkip)))
def l3_law : MS :=
  (mSeq (mAsg (mOp mShl (mC (W.int 1)) (mVar 16)) (mGN 17))
  (mFor (mILst (mLst (mCons (mOp mMod (mOp mIx (mVar 1) (mOp mMod (mVar 16) (mCB mLen (mCons (mVar 1) mNil)))) (mOp mFdiv (mVar 5) (mVar 17))) (mCons (mOp mFdiv (mOp mSub (mVar 6) (mC (W.int 1))) (mVar 17)) mNil)))) (mGN 18) l2_law))
def b_law : MS :=
  (mSeq (mAsg (mOp mAdd (mCall 3 m_L_draws (mCons (mVar 0) (mCons (mC (W.int 0)) (mCons (mC (W.int 50)) mNil)))) (mLst (mCons (mC (W.int 5)) (mCons (mC (W.int 99991)) (mCons (mC (W.int 123456789)) mNil))))) (mGN 1))
  (mSeq (mAsg (mMake 0 3 m_Digests_init (mCons (mC (W.int 61)) (mCons (mC W.non) mNil))) (mGN 2))
  (mSeq (mAsg (mCall 2 m_L_words (mCons (mVar 1) (mCons (mOp mAdd (mC (W.int 1)) (mOp mMod (mOp mIx (mVar 1) (mC (W.int 0))) (mC (W.int 60)))) mNil))) (mGN 3))
  (mSeq (mAsg (mOp mMod (mOp mFdiv (mOp mIx (mVar 1) (mC (W.int 0))) (mC (W.int 60))) (mC (W.int 8))) (mGN 4))
  (mSeq (mAsg (mOp mShl (mC (W.int 1)) (mVar 4)) (mGN 5))
  (mSeq (mAsg (mOp mAdd (mC (W.int 1)) (mOp mMod (mOp mIx (mVar 1) (mC (W.int 1))) (mVar 5))) (mGN 6))
  (mSeq (mAsg (mTup (mCons (mC (W.str "word")) (mCons (mVar 6) (mCons (mOp mMod (mOp mFdiv (mOp mIx (mVar 1) (mC (W.int 1))) (mC (W.int 128))) (mC (W.int 256))) (mCons (mOp mMod (mOp mIx (mVar 1) (mC (W.int 2))) (mC (W.int 65536))) mNil))))) (mGN 7))
  (mSeq (mIfS (mTest (mOp mEq (mOp mMod (mOp mIx (mVar 1) (mC (W.int 0))) (mC (W.int 2))) (mC (W.int 1)))) (mAsg (mTup (mCons (mC (W.str "told")) (mCons (mVar 6) (mCons (mCB mTupleOf (mCons (mLc (mIRng1 (mCons (mOp mMod (mOp mIx (mVar 1) (mC (W.int 2))) (mC (W.int 17))) mNil)) (.nm 8) mYes e0_law [8]) mNil)) mNil)))) (mGN 7)) mSkip)
  (mSeq (mAsg (mMake 4 5 m_History_init (mCons (mVar 2) (mCons (mVar 3) (mCons (mVar 4) (mCons (mVar 7) mNil))))) (mGN 9))
  (mSeq (mAsg (mCall 4 m_L_run (mCons (mVar 2) (mCons (mVar 3) (mCons (mVar 5) (mCons (mVar 7) mNil))))) (mGTup 4 (mGCons (mGN 10) (mGCons (mGN 11) (mGCons (mGN 12) (mGCons (mGN 13) mGNil))))))
  (mSeq (mFor (mILst (mOp mAdd (mSl (mVar 1) mNoPart (mPart (mC (W.int 8)))) (mLst (mCons (mOp mSub (mVar 6) (mC (W.int 1))) (mCons (mVar 6) (mCons (mCB mMin2 (mCons (mOp mAdd (mVar 6) (mC (W.int 1))) (mCons (mVar 5) mNil))) (mCons (mVar 5) mNil))))))) (mGN 14) l1_law)
  (mSeq (mFor (mIRng1 (mCons (mOp mAdd (mVar 4) (mC (W.int 1))) mNil)) (mGN 16) l3_law)
  (mSeq (mIfS (mTest (mOp mNe (mMeth 4 "end" 1 m_History_end (mVar 9) mNil) (mTup (mCons (mOp mIx (mVar 10) (mUn mNeg (mC (W.int 1)))) (mCons (mCall 3 m_path_of (mCons (mVar 2) (mCons (mSl (mVar 10) (mPart (mC (W.int 1))) mNoPart) (mCons (mOp mSub (mVar 5) (mC (W.int 1))) mNil)))) (mCons (mMeth 3 "registers" 1 m_Machine_registers (mVar 12) mNil) (mCons (mMeth 3 "root" 1 m_Machine_root (mVar 12) mNil) (mCons (mVar 13) mNil)))))))) (mRet (mC (W.bl false))) mSkip)
  (mSeq (mAsg (mMake 4 5 m_History_init (mCons (mVar 2) (mCons (mVar 3) (mCons (mVar 4) (mCons (mC W.non) mNil))))) (mGN 22))
  (mSeq (mAsg (mOp mEq (mCall 3 m_step_of (mCons (mVar 2) (mCons (mOp mIx (mVar 10) (mOp mSub (mVar 6) (mC (W.int 1)))) (mCons (mOp mIx (mVar 11) (mOp mSub (mVar 6) (mC (W.int 1)))) mNil)))) (mOp mIx (mVar 10) (mVar 6))) (mGN 23))
  (mRet (mOp mEq (mVar 23) (mOp mEq (mMeth 4 "digest" 2 m_History_digest (mVar 22) (mCons (mVar 6) mNil)) (mMeth 4 "digest" 2 m_History_digest (mVar 9) (mCons (mVar 6) mNil))))))))))))))))))))
def m_law : MF := mDefX 1 23 b_law
/-! ### what the top has made -/
structure Tx (K : PySem.W.Frag) (mg : Str → Option Value) (Cl : Nat → Addr) where
  a_Machine_told : Addr
  d_Machine_told : FuncData
  F_Machine_told : Fun K "told" "Machine.told" s_Machine_told a_Machine_told d_Machine_told
  m_Machine_told : Meth K (Cl 3) "told" a_Machine_told
  a_Memory_words : Addr
  d_Memory_words : FuncData
  F_Memory_words : Fun K "words" "Memory.words" s_Memory_words a_Memory_words d_Memory_words
  m_Memory_words : Meth K (Cl 2) "words" a_Memory_words
  a_Machine_words : Addr
  d_Machine_words : FuncData
  F_Machine_words : Fun K "words" "Machine.words" s_Machine_words a_Machine_words d_Machine_words
  m_Machine_words : Meth K (Cl 3) "words" a_Machine_words
  a_Memory_word : Addr
  d_Memory_word : FuncData
  F_Memory_word : Fun K "word" "Memory.word" s_Memory_word a_Memory_word d_Memory_word
  m_Memory_word : Meth K (Cl 2) "word" a_Memory_word
  a_Machine_word : Addr
  d_Machine_word : FuncData
  F_Machine_word : Fun K "word" "Machine.word" s_Machine_word a_Machine_word d_Machine_word
  m_Machine_word : Meth K (Cl 3) "word" a_Machine_word
  a_Machine_registers : Addr
  d_Machine_registers : FuncData
  F_Machine_registers : Fun K "registers" "Machine.registers" s_Machine_registers a_Machine_registers d_Machine_registers
  m_Machine_registers : Meth K (Cl 3) "registers" a_Machine_registers
  a_Memory_root : Addr
  d_Memory_root : FuncData
  F_Memory_root : Fun K "root" "Memory.root" s_Memory_root a_Memory_root d_Memory_root
  m_Memory_root : Meth K (Cl 2) "root" a_Memory_root
  a_Machine_root : Addr
  d_Machine_root : FuncData
  F_Machine_root : Fun K "root" "Machine.root" s_Machine_root a_Machine_root d_Machine_root
  m_Machine_root : Meth K (Cl 3) "root" a_Machine_root
  a_Digests_kept : Addr
  d_Digests_kept : FuncData
  F_Digests_kept : Fun K "_kept" "Digests._kept" s_Digests_kept a_Digests_kept d_Digests_kept
  m_Digests_kept : Meth K (Cl 0) "_kept" a_Digests_kept
  a_Digests_state : Addr
  d_Digests_state : FuncData
  F_Digests_state : Fun K "state" "Digests.state" s_Digests_state a_Digests_state d_Digests_state
  m_Digests_state : Meth K (Cl 0) "state" a_Digests_state
  a_Machine_digest : Addr
  d_Machine_digest : FuncData
  F_Machine_digest : Fun K "digest" "Machine.digest" s_Machine_digest a_Machine_digest d_Machine_digest
  m_Machine_digest : Meth K (Cl 3) "digest" a_Machine_digest
  a_Memory_path : Addr
  d_Memory_path : FuncData
  F_Memory_path : Fun K "path" "Memory.path" s_Memory_path a_Memory_path d_Memory_path
  m_Memory_path : Meth K (Cl 2) "path" a_Memory_path
  a_Machine_path : Addr
  d_Machine_path : FuncData
  F_Machine_path : Fun K "path" "Machine.path" s_Machine_path a_Machine_path d_Machine_path
  m_Machine_path : Meth K (Cl 3) "path" a_Machine_path
  a_name_of : Addr
  d_name_of : FuncData
  F_name_of : Fun K "name_of" "name_of" s_name_of a_name_of d_name_of
  g_name_of : mg "name_of" = some (.ref a_name_of)
  a_data_of : Addr
  d_data_of : FuncData
  F_data_of : Fun K "data_of" "data_of" s_data_of a_data_of d_data_of
  g_data_of : mg "data_of" = some (.ref a_data_of)
  a_wrapped : Addr
  d_wrapped : FuncData
  F_wrapped : Fun K "wrapped" "wrapped" s_wrapped a_wrapped d_wrapped
  g_wrapped : mg "wrapped" = some (.ref a_wrapped)
  a_compared : Addr
  d_compared : FuncData
  F_compared : Fun K "compared" "compared" s_compared a_compared d_compared
  g_compared : mg "compared" = some (.ref a_compared)
  a_op : Addr
  d_op : FuncData
  F_op : Fun K "op" "op" s_op a_op d_op
  g_op : mg "op" = some (.ref a_op)
  a_mark_of : Addr
  d_mark_of : FuncData
  F_mark_of : Fun K "mark_of" "mark_of" s_mark_of a_mark_of d_mark_of
  g_mark_of : mg "mark_of" = some (.ref a_mark_of)
  a_halted : Addr
  d_halted : FuncData
  F_halted : Fun K "halted" "halted" s_halted a_halted d_halted
  g_halted : mg "halted" = some (.ref a_halted)
  a_Digests_fold : Addr
  d_Digests_fold : FuncData
  F_Digests_fold : Fun K "fold" "Digests.fold" s_Digests_fold a_Digests_fold d_Digests_fold
  m_Digests_fold : Meth K (Cl 0) "fold" a_Digests_fold
  a_Digests_leaf : Addr
  d_Digests_leaf : FuncData
  F_Digests_leaf : Fun K "leaf" "Digests.leaf" s_Digests_leaf a_Digests_leaf d_Digests_leaf
  m_Digests_leaf : Meth K (Cl 0) "leaf" a_Digests_leaf
  a_pc_behind : Addr
  d_pc_behind : FuncData
  F_pc_behind : Fun K "pc_behind" "pc_behind" s_pc_behind a_pc_behind d_pc_behind
  g_pc_behind : mg "pc_behind" = some (.ref a_pc_behind)
  a_acc_behind : Addr
  d_acc_behind : FuncData
  F_acc_behind : Fun K "acc_behind" "acc_behind" s_acc_behind a_acc_behind d_acc_behind
  g_acc_behind : mg "acc_behind" = some (.ref a_acc_behind)
  a_done_by : Addr
  d_done_by : FuncData
  F_done_by : Fun K "done_by" "done_by" s_done_by a_done_by d_done_by
  g_done_by : mg "done_by" = some (.ref a_done_by)
  a_Memory_change : Addr
  d_Memory_change : FuncData
  F_Memory_change : Fun K "change" "Memory.change" s_Memory_change a_Memory_change d_Memory_change
  m_Memory_change : Meth K (Cl 2) "change" a_Memory_change
  a_Machine_step : Addr
  d_Machine_step : FuncData
  F_Machine_step : Fun K "step" "Machine.step" s_Machine_step a_Machine_step d_Machine_step
  m_Machine_step : Meth K (Cl 3) "step" a_Machine_step
  a_L_draws : Addr
  d_L_draws : FuncData
  F_L_draws : Fun K "_law_draws" "_law_draws" s_L_draws a_L_draws d_L_draws
  g_L_draws : mg "_law_draws" = some (.ref a_L_draws)
  a_Digests_init : Addr
  d_Digests_init : FuncData
  F_Digests_init : Fun K "__init__" "Digests.__init__" s_Digests_init a_Digests_init d_Digests_init
  M_Digests : Mk K (Cl 0) a_Digests_init
  a_L_words : Addr
  d_L_words : FuncData
  F_L_words : Fun K "_law_words" "_law_words" s_L_words a_L_words d_L_words
  g_L_words : mg "_law_words" = some (.ref a_L_words)
  a_folded : Addr
  d_folded : FuncData
  F_folded : Fun K "folded" "folded" s_folded a_folded d_folded
  g_folded : mg "folded" = some (.ref a_folded)
  a_Memory_init : Addr
  d_Memory_init : FuncData
  F_Memory_init : Fun K "__init__" "Memory.__init__" s_Memory_init a_Memory_init d_Memory_init
  M_Memory : Mk K (Cl 2) a_Memory_init
  a_Machine_init : Addr
  d_Machine_init : FuncData
  F_Machine_init : Fun K "__init__" "Machine.__init__" s_Machine_init a_Machine_init d_Machine_init
  M_Machine : Mk K (Cl 3) a_Machine_init
  a_first_registers : Addr
  d_first_registers : FuncData
  F_first_registers : Fun K "first_registers" "first_registers" s_first_registers a_first_registers d_first_registers
  g_first_registers : mg "first_registers" = some (.ref a_first_registers)
  a_out_of : Addr
  d_out_of : FuncData
  F_out_of : Fun K "out_of" "out_of" s_out_of a_out_of d_out_of
  g_out_of : mg "out_of" = some (.ref a_out_of)
  a_History_following : Addr
  d_History_following : FuncData
  F_History_following : Fun K "_following" "History._following" s_History_following a_History_following d_History_following
  m_History_following : Meth K (Cl 4) "_following" a_History_following
  a_root_of : Addr
  d_root_of : FuncData
  F_root_of : Fun K "root_of" "root_of" s_root_of a_root_of d_root_of
  g_root_of : mg "root_of" = some (.ref a_root_of)
  a_History_init : Addr
  d_History_init : FuncData
  F_History_init : Fun K "__init__" "History.__init__" s_History_init a_History_init d_History_init
  M_History : Mk K (Cl 4) a_History_init
  a_opened : Addr
  d_opened : FuncData
  F_opened : Fun K "opened" "opened" s_opened a_opened d_opened
  g_opened : mg "opened" = some (.ref a_opened)
  a_L_run : Addr
  d_L_run : FuncData
  F_L_run : Fun K "_law_run" "_law_run" s_L_run a_L_run d_L_run
  g_L_run : mg "_law_run" = some (.ref a_L_run)
  a_History_machine : Addr
  d_History_machine : FuncData
  F_History_machine : Fun K "_machine" "History._machine" s_History_machine a_History_machine d_History_machine
  m_History_machine : Meth K (Cl 4) "_machine" a_History_machine
  a_History_digest : Addr
  d_History_digest : FuncData
  F_History_digest : Fun K "digest" "History.digest" s_History_digest a_History_digest d_History_digest
  m_History_digest : Meth K (Cl 4) "digest" a_History_digest
  a_History_opening : Addr
  d_History_opening : FuncData
  F_History_opening : Fun K "opening" "History.opening" s_History_opening a_History_opening d_History_opening
  m_History_opening : Meth K (Cl 4) "opening" a_History_opening
  a_History_row : Addr
  d_History_row : FuncData
  F_History_row : Fun K "_row" "History._row" s_History_row a_History_row d_History_row
  m_History_row : Meth K (Cl 4) "_row" a_History_row
  a_History_root : Addr
  d_History_root : FuncData
  F_History_root : Fun K "root" "History.root" s_History_root a_History_root d_History_root
  m_History_root : Meth K (Cl 4) "root" a_History_root
  a_path_of : Addr
  d_path_of : FuncData
  F_path_of : Fun K "path_of" "path_of" s_path_of a_path_of d_path_of
  g_path_of : mg "path_of" = some (.ref a_path_of)
  a_History_last_path : Addr
  d_History_last_path : FuncData
  F_History_last_path : Fun K "_last_path" "History._last_path" s_History_last_path a_History_last_path d_History_last_path
  m_History_last_path : Meth K (Cl 4) "_last_path" a_History_last_path
  a_History_halves : Addr
  d_History_halves : FuncData
  F_History_halves : Fun K "halves" "History.halves" s_History_halves a_History_halves d_History_halves
  m_History_halves : Meth K (Cl 4) "halves" a_History_halves
  a_History_end : Addr
  d_History_end : FuncData
  F_History_end : Fun K "end" "History.end" s_History_end a_History_end d_History_end
  m_History_end : Meth K (Cl 4) "end" a_History_end
  a_must : Addr
  d_must : FuncData
  F_must : Fun K "must" "must" s_must a_must d_must
  g_must : mg "must" = some (.ref a_must)
  a_is_integer : Addr
  d_is_integer : FuncData
  F_is_integer : Fun K "is_integer" "is_integer" s_is_integer a_is_integer d_is_integer
  g_is_integer : mg "is_integer" = some (.ref a_is_integer)
  a_is_word : Addr
  d_is_word : FuncData
  F_is_word : Fun K "is_word" "is_word" s_is_word a_is_word d_is_word
  g_is_word : mg "is_word" = some (.ref a_is_word)
  a_Digests_is_digest : Addr
  d_Digests_is_digest : FuncData
  F_Digests_is_digest : Fun K "is_digest" "Digests.is_digest" s_Digests_is_digest a_Digests_is_digest d_Digests_is_digest
  m_Digests_is_digest : Meth K (Cl 0) "is_digest" a_Digests_is_digest
  a_are_registers : Addr
  d_are_registers : FuncData
  F_are_registers : Fun K "are_registers" "are_registers" s_are_registers a_are_registers d_are_registers
  g_are_registers : mg "are_registers" = some (.ref a_are_registers)
  a_is_part : Addr
  d_is_part : FuncData
  F_is_part : Fun K "is_part" "is_part" s_is_part a_is_part d_is_part
  g_is_part : mg "is_part" = some (.ref a_is_part)
  a_is_opening : Addr
  d_is_opening : FuncData
  F_is_opening : Fun K "is_opening" "is_opening" s_is_opening a_is_opening d_is_opening
  g_is_opening : mg "is_opening" = some (.ref a_is_opening)
  a_root_by : Addr
  d_root_by : FuncData
  F_root_by : Fun K "root_by" "root_by" s_root_by a_root_by d_root_by
  g_root_by : mg "root_by" = some (.ref a_root_by)
  a_root_with : Addr
  d_root_with : FuncData
  F_root_with : Fun K "root_with" "root_with" s_root_with a_root_with d_root_with
  g_root_with : mg "root_with" = some (.ref a_root_with)
  a_step_of : Addr
  d_step_of : FuncData
  F_step_of : Fun K "step_of" "step_of" s_step_of a_step_of d_step_of
  g_step_of : mg "step_of" = some (.ref a_step_of)
  a_law : Addr
  d_law : FuncData
  F_law : Fun K "law" "law" s_law a_law d_law
  g_law : mg "law" = some (.ref a_law)
  k_Memory : Cls K (Cl 2)
  g_Memory : mg "Memory" = some (.ref (Cl 2))
  n_Memory__words : NoAttr K (Cl 2) "_words"
  n_Memory__rows : NoAttr K (Cl 2) "_rows"
  n_Memory__digests : NoAttr K (Cl 2) "_digests"
  k_Machine : Cls K (Cl 3)
  g_Machine : mg "Machine" = some (.ref (Cl 3))
  n_Machine__told : NoAttr K (Cl 3) "_told"
  n_Machine__memory : NoAttr K (Cl 3) "_memory"
  n_Machine__registers : NoAttr K (Cl 3) "_registers"
  n_Machine__digests : NoAttr K (Cl 3) "_digests"
  k_Digests : Cls K (Cl 0)
  g_Digests : mg "Digests" = some (.ref (Cl 0))
  n_Digests__modulus : NoAttr K (Cl 0) "_modulus"
  n_Digests__book : NoAttr K (Cl 0) "_book"
  n_Digests__bits : NoAttr K (Cl 0) "_bits"
  k_History : Cls K (Cl 4)
  g_History : mg "History" = some (.ref (Cl 4))
  n_History__turn : NoAttr K (Cl 4) "_turn"
  n_History__digests : NoAttr K (Cl 4) "_digests"
  n_History__count : NoAttr K (Cl 4) "_count"
  n_History__level : NoAttr K (Cl 4) "_level"
  n_History__block : NoAttr K (Cl 4) "_block"
  n_History__states : NoAttr K (Cl 4) "_states"
  n_History__roots : NoAttr K (Cl 4) "_roots"
  n_History__halves : NoAttr K (Cl 4) "_halves"
  n_History__openings : NoAttr K (Cl 4) "_openings"
  n_History__end : NoAttr K (Cl 4) "_end"
  g_CourtError : mg "CourtError" = some (.ref (Cl 24))
  g_BadOpening : mg "BadOpening" = some (.ref (Cl 29))
  x_BadOpening : XCls K mg "BadOpening" (Cl 29)
  c_FIRST_STATE : GC K mg "FIRST_STATE" w_FIRST_STATE
  c_ARGUMENTS : GC K mg "ARGUMENTS" w_ARGUMENTS
  c_NAMES : GC K mg "NAMES" w_NAMES
  c_PLACES_machine : GC K mg "PLACES_machine" w_PLACES
  c_CHANGERS : GC K mg "CHANGERS" w_CHANGERS
  c_READERS : GC K mg "READERS" w_READERS
  c_SIGNS : GC K mg "SIGNS" w_SIGNS
  c_MOST_WORD : GC K mg "MOST_WORD" w_MOST_WORD
  c_MOST_TOLD : GC K mg "MOST_TOLD" w_MOST_TOLD
  c_PLACES_trees : GC K mg "PLACES_trees" w_PLACES
  c_FIRST_OUT : GC K mg "FIRST_OUT" w_FIRST_OUT
  c_MARKS : GC K mg "MARKS" w_MARKS
  c_DEPTH : GC K mg "DEPTH" w_DEPTH
  x_MARKS : GTp K mg "MARKS" z_MARKS
  b_abs : mg "abs" = none
  b_all : mg "all" = none
  b_bool : mg "bool" = none
  b_int : mg "int" = none
  b_isinstance : mg "isinstance" = none
  b_len : mg "len" = none
  b_list : mg "list" = none
  b_min : mg "min" = none
  b_range : mg "range" = none
  b_tuple : mg "tuple" = none
section
variable {P : Program} {w : World} {K : PySem.W.Frag} {Cl : Nat → Addr} {mg : Str → Option Value} {base : Heap}
theorem sc_Machine_told : FnScope ["self"] ["self"] (defScope s_Machine_told) := ⟨rfl, rfl, rfl, by decide +kernel, rfl, by decide +kernel, by decide +kernel⟩
theorem bi_Machine_told (T : Tx K mg Cl) : Binds K T.d_Machine_told ["self"] [] := T.F_Machine_told.binds fun _ _ _ _ _ _ us hl => match us, hl with | [_], _ => rfl
theorem ok_Machine_told (T : Tx K mg Cl) : FnOk P w K mg base CX0 1 T.a_Machine_told T.d_Machine_told ["self"] (spM K Cl 1 m_Machine_told) := by
  refine fn_ok T.F_Machine_told sc_Machine_told rfl rfl fun cdv A outer s H E hr => ?_
  have hN := (sc_Machine_told).nd
  exact (jss_one (js_ret (je_fld T.k_Machine T.n_Machine__told (je_var 0))))
theorem sc_Memory_words : FnScope ["self"] ["self"] (defScope s_Memory_words) := ⟨rfl, rfl, rfl, by decide +kernel, rfl, by decide +kernel, by decide +kernel⟩
theorem bi_Memory_words (T : Tx K mg Cl) : Binds K T.d_Memory_words ["self"] [] := T.F_Memory_words.binds fun _ _ _ _ _ _ us hl => match us, hl with | [_], _ => rfl
theorem ok_Memory_words (T : Tx K mg Cl) : FnOk P w K mg base CX0 1 T.a_Memory_words T.d_Memory_words ["self"] (spM K Cl 1 m_Memory_words) := by
  refine fn_ok T.F_Memory_words sc_Memory_words rfl rfl fun cdv A outer s H E hr => ?_
  have hN := (sc_Memory_words).nd
  exact (jss_one (js_ret (je_callTy c_tuple T.b_tuple PyProof.Rows.boot_tuple (ja_cons (je_fld T.k_Memory T.n_Memory__words (je_var 0)) ja_nil))))
theorem sc_Machine_words : FnScope ["self"] ["self"] (defScope s_Machine_words) := ⟨rfl, rfl, rfl, by decide +kernel, rfl, by decide +kernel, by decide +kernel⟩
theorem bi_Machine_words (T : Tx K mg Cl) : Binds K T.d_Machine_words ["self"] [] := T.F_Machine_words.binds fun _ _ _ _ _ _ us hl => match us, hl with | [_], _ => rfl
theorem ok_Machine_words (T : Tx K mg Cl) : FnOk P w K mg base CX0 2 T.a_Machine_words T.d_Machine_words ["self"] (spM K Cl 1 m_Machine_words) := by
  refine fn_ok T.F_Machine_words sc_Machine_words rfl rfl fun cdv A outer s H E hr => ?_
  have hN := (sc_Machine_words).nd
  exact (jss_one (js_ret (je_meth0 T.k_Memory T.m_Memory_words (ok_Memory_words T) (hr.mono (by decide)) (bi_Memory_words T) (let0 nox_def) (je_fld T.k_Machine T.n_Machine__memory (je_var 0)))))
theorem sc_Memory_word : FnScope ["self", "place"] ["self", "place"] (defScope s_Memory_word) := ⟨rfl, rfl, rfl, by decide +kernel, rfl, by decide +kernel, by decide +kernel⟩
theorem bi_Memory_word (T : Tx K mg Cl) : Binds K T.d_Memory_word ["self", "place"] [] := T.F_Memory_word.binds fun _ _ _ _ _ _ us hl => match us, hl with | [_, _], _ => rfl
theorem ok_Memory_word (T : Tx K mg Cl) : FnOk P w K mg base CX0 1 T.a_Memory_word T.d_Memory_word ["self", "place"] (spM K Cl 2 m_Memory_word) := by
  refine fn_ok T.F_Memory_word sc_Memory_word rfl rfl fun cdv A outer s H E hr => ?_
  have hN := (sc_Memory_word).nd
  exact (jss_one (js_ret (je_ix (je_fld T.k_Memory T.n_Memory__words (je_var 0)) (je_var 1))))
theorem sc_Machine_word : FnScope ["self", "place"] ["self", "place"] (defScope s_Machine_word) := ⟨rfl, rfl, rfl, by decide +kernel, rfl, by decide +kernel, by decide +kernel⟩
theorem bi_Machine_word (T : Tx K mg Cl) : Binds K T.d_Machine_word ["self", "place"] [] := T.F_Machine_word.binds fun _ _ _ _ _ _ us hl => match us, hl with | [_, _], _ => rfl
theorem ok_Machine_word (T : Tx K mg Cl) : FnOk P w K mg base CX0 2 T.a_Machine_word T.d_Machine_word ["self", "place"] (spM K Cl 2 m_Machine_word) := by
  refine fn_ok T.F_Machine_word sc_Machine_word rfl rfl fun cdv A outer s H E hr => ?_
  have hN := (sc_Machine_word).nd
  exact (jss_one (js_ret (je_meth T.k_Memory T.m_Memory_word (ok_Memory_word T) (hr.mono (by decide)) (bi_Memory_word T) (let0 nox_def) (je_fld T.k_Machine T.n_Machine__memory (je_var 0)) (ja_cons (je_var 1) ja_nil))))
theorem sc_Machine_registers : FnScope ["self"] ["self"] (defScope s_Machine_registers) := ⟨rfl, rfl, rfl, by decide +kernel, rfl, by decide +kernel, by decide +kernel⟩
theorem bi_Machine_registers (T : Tx K mg Cl) : Binds K T.d_Machine_registers ["self"] [] := T.F_Machine_registers.binds fun _ _ _ _ _ _ us hl => match us, hl with | [_], _ => rfl
theorem ok_Machine_registers (T : Tx K mg Cl) : FnOk P w K mg base CX0 1 T.a_Machine_registers T.d_Machine_registers ["self"] (spM K Cl 1 m_Machine_registers) := by
  refine fn_ok T.F_Machine_registers sc_Machine_registers rfl rfl fun cdv A outer s H E hr => ?_
  have hN := (sc_Machine_registers).nd
  exact (jss_one (js_ret (je_fld T.k_Machine T.n_Machine__registers (je_var 0))))
theorem sc_Memory_root : FnScope ["self"] ["self"] (defScope s_Memory_root) := ⟨rfl, rfl, rfl, by decide +kernel, rfl, by decide +kernel, by decide +kernel⟩
theorem bi_Memory_root (T : Tx K mg Cl) : Binds K T.d_Memory_root ["self"] [] := T.F_Memory_root.binds fun _ _ _ _ _ _ us hl => match us, hl with | [_], _ => rfl
theorem ok_Memory_root (T : Tx K mg Cl) : FnOk P w K mg base CX0 1 T.a_Memory_root T.d_Memory_root ["self"] (spM K Cl 1 m_Memory_root) := by
  refine fn_ok T.F_Memory_root sc_Memory_root rfl rfl fun cdv A outer s H E hr => ?_
  have hN := (sc_Memory_root).nd
  exact (jss_one (js_ret (je_ix (je_ix (je_fld T.k_Memory T.n_Memory__rows (je_var 0)) (je_un u_neg je_int)) je_int)))
theorem sc_Machine_root : FnScope ["self"] ["self"] (defScope s_Machine_root) := ⟨rfl, rfl, rfl, by decide +kernel, rfl, by decide +kernel, by decide +kernel⟩
theorem bi_Machine_root (T : Tx K mg Cl) : Binds K T.d_Machine_root ["self"] [] := T.F_Machine_root.binds fun _ _ _ _ _ _ us hl => match us, hl with | [_], _ => rfl
theorem ok_Machine_root (T : Tx K mg Cl) : FnOk P w K mg base CX0 2 T.a_Machine_root T.d_Machine_root ["self"] (spM K Cl 1 m_Machine_root) := by
  refine fn_ok T.F_Machine_root sc_Machine_root rfl rfl fun cdv A outer s H E hr => ?_
  have hN := (sc_Machine_root).nd
  exact (jss_one (js_ret (je_meth0 T.k_Memory T.m_Memory_root (ok_Memory_root T) (hr.mono (by decide)) (bi_Memory_root T) (let0 nox_def) (je_fld T.k_Machine T.n_Machine__memory (je_var 0)))))
theorem sc_Digests_kept : FnScope ["self", "kind", "text", "number", "digest"] ["self", "kind", "text", "number"] (defScope s_Digests_kept) := ⟨rfl, rfl, rfl, by decide +kernel, rfl, by decide +kernel, by decide +kernel⟩
theorem bi_Digests_kept (T : Tx K mg Cl) : Binds K T.d_Digests_kept ["self", "kind", "text", "number"] [] := T.F_Digests_kept.binds fun _ _ _ _ _ _ us hl => match us, hl with | [_, _, _, _], _ => rfl
theorem ok_Digests_kept (T : Tx K mg Cl) : FnOk P w K mg base CX0 1 T.a_Digests_kept T.d_Digests_kept ["self", "kind", "text", "number"] (spM K Cl 4 m_Digests_kept) := by
  refine fn_ok T.F_Digests_kept sc_Digests_kept rfl rfl fun cdv A outer s H E hr => ?_
  have hN := (sc_Digests_kept).nd
  exact (jss_cons (js_set 4 hN (je_op o_mod (je_var 3) (je_fld T.k_Digests T.n_Digests__modulus (je_var 0))))
    (jss_cons (js_if (jt_cmp o_notN (je_fld T.k_Digests T.n_Digests__book (je_var 0)) je_non (nomark _)) (jss_one js_dead) jss_nil)
    (jss_one (js_ret (je_var 4)))))
theorem sc_Digests_state : FnScope ["self", "numbers", "found", "number"] ["self", "numbers"] (defScope s_Digests_state) := ⟨rfl, rfl, rfl, by decide +kernel, rfl, by decide +kernel, by decide +kernel⟩
theorem bi_Digests_state (T : Tx K mg Cl) : Binds K T.d_Digests_state ["self", "numbers"] [] := T.F_Digests_state.binds fun _ _ _ _ _ _ us hl => match us, hl with | [_, _], _ => rfl
theorem ok_Digests_state (T : Tx K mg Cl) : FnOk P w K mg base CX0 2 T.a_Digests_state T.d_Digests_state ["self", "numbers"] (spM K Cl 2 m_Digests_state) := by
  refine fn_ok T.F_Digests_state sc_Digests_state rfl rfl fun cdv A outer s H E hr => ?_
  have hN := (sc_Digests_state).nd
  exact (jss_cons (js_set 2 hN (je_glob T.c_FIRST_STATE))
    (jss_cons (js_for PassesOwn.never rfl (ji_tup (je_var 1)) (jg_name 3 hN) (jss_one (js_set 2 hN (je_op o_mod (je_op o_add (je_op o_add (je_op o_mul (je_op o_add (je_var 2) (je_var 3)) (je_op o_add (je_var 2) je_int)) (je_op o_mul je_int (je_var 3))) je_int) (je_fld T.k_Digests T.n_Digests__modulus (je_var 0))))))
    (jss_one (js_ret (je_meth T.k_Digests T.m_Digests_kept (ok_Digests_kept T) (hr.mono (by decide)) (bi_Digests_kept T) (let0 nox_def) (je_var 0) (ja_cons je_str (ja_cons (je_var 1) (ja_cons (je_var 2) ja_nil))))))))
theorem sc_Machine_digest : FnScope ["self"] ["self"] (defScope s_Machine_digest) := ⟨rfl, rfl, rfl, by decide +kernel, rfl, by decide +kernel, by decide +kernel⟩
theorem bi_Machine_digest (T : Tx K mg Cl) : Binds K T.d_Machine_digest ["self"] [] := T.F_Machine_digest.binds fun _ _ _ _ _ _ us hl => match us, hl with | [_], _ => rfl
theorem ok_Machine_digest (T : Tx K mg Cl) : FnOk P w K mg base CX0 3 T.a_Machine_digest T.d_Machine_digest ["self"] (spM K Cl 1 m_Machine_digest) := by
  refine fn_ok T.F_Machine_digest sc_Machine_digest rfl rfl fun cdv A outer s H E hr => ?_
  have hN := (sc_Machine_digest).nd
  exact (jss_one (js_ret (je_meth T.k_Digests T.m_Digests_state (ok_Digests_state T) (hr.mono (by decide)) (bi_Digests_state T) (let0 nox_def) (je_fld T.k_Machine T.n_Machine__digests (je_var 0)) (ja_cons (je_op o_add (je_fld T.k_Machine T.n_Machine__registers (je_var 0)) (je_tup (ja_cons (je_meth0 T.k_Machine T.m_Machine_root (ok_Machine_root T) (hr.mono (by decide)) (bi_Machine_root T) (let0 nox_def) (je_var 0)) ja_nil))) ja_nil))))
theorem sc_Memory_path : FnScope ["self", "place", "path", "row"] ["self", "place"] (defScope s_Memory_path) := ⟨rfl, rfl, rfl, by decide +kernel, rfl, by decide +kernel, by decide +kernel⟩
theorem bi_Memory_path (T : Tx K mg Cl) : Binds K T.d_Memory_path ["self", "place"] [] := T.F_Memory_path.binds fun _ _ _ _ _ _ us hl => match us, hl with | [_, _], _ => rfl
theorem ok_Memory_path (T : Tx K mg Cl) : FnOk P w K mg base CX0 1 T.a_Memory_path T.d_Memory_path ["self", "place"] (spM K Cl 2 m_Memory_path) := by
  refine fn_ok T.F_Memory_path sc_Memory_path rfl rfl fun cdv A outer s H E hr => ?_
  have hN := (sc_Memory_path).nd
  exact (jss_cons (js_set 2 hN (je_lstS ja_nil))
    (jss_cons (js_for PassesOwn.never rfl (ji_lst (je_sl (je_fld T.k_Memory T.n_Memory__rows (je_var 0)) jo_none (jo_some (je_un u_neg je_int)))) (jg_name 3 hN) (jss_cons (js_expr (je_lm PySem.F.slot_list_append PySem.F.type_list_append m_app (je_var 2) (ja_cons (je_ix (je_var 3) (je_op o_xor (je_var 1) je_int)) ja_nil)))
    (jss_one (js_set 1 hN (je_op o_fdiv (je_var 1) je_int)))))
    (jss_one (js_ret (je_callTy c_tuple T.b_tuple PyProof.Rows.boot_tuple (ja_cons (je_var 2) ja_nil))))))
theorem sc_Machine_path : FnScope ["self", "place"] ["self", "place"] (defScope s_Machine_path) := ⟨rfl, rfl, rfl, by decide +kernel, rfl, by decide +kernel, by decide +kernel⟩
theorem bi_Machine_path (T : Tx K mg Cl) : Binds K T.d_Machine_path ["self", "place"] [] := T.F_Machine_path.binds fun _ _ _ _ _ _ us hl => match us, hl with | [_, _], _ => rfl
theorem ok_Machine_path (T : Tx K mg Cl) : FnOk P w K mg base CX0 2 T.a_Machine_path T.d_Machine_path ["self", "place"] (spM K Cl 2 m_Machine_path) := by
  refine fn_ok T.F_Machine_path sc_Machine_path rfl rfl fun cdv A outer s H E hr => ?_
  have hN := (sc_Machine_path).nd
  exact (jss_one (js_ret (je_meth T.k_Memory T.m_Memory_path (ok_Memory_path T) (hr.mono (by decide)) (bi_Memory_path T) (let0 nox_def) (je_fld T.k_Machine T.n_Machine__memory (je_var 0)) (ja_cons (je_var 1) ja_nil))))
theorem sc_name_of : FnScope ["word", "number"] ["word"] (defScope s_name_of) := ⟨rfl, rfl, rfl, by decide +kernel, rfl, by decide +kernel, by decide +kernel⟩
theorem bi_name_of (T : Tx K mg Cl) : Binds K T.d_name_of ["word"] [] := T.F_name_of.binds fun _ _ _ _ _ _ us hl => match us, hl with | [_], _ => rfl
theorem ok_name_of (T : Tx K mg Cl) : FnOk P w K mg base CX0 1 T.a_name_of T.d_name_of ["word"] (spM K Cl 1 m_name_of) := by
  refine fn_ok T.F_name_of sc_name_of rfl rfl fun cdv A outer s H E hr => ?_
  have hN := (sc_name_of).nd
  exact (jss_cons (js_set 1 hN (je_op o_fdiv (je_var 0) (je_glob T.c_ARGUMENTS)))
    (jss_cons (js_if (jt_cmp o_lt (je_var 1) (je_callB c_len T.b_len PySem.boot_len (ja_cons (je_glob T.c_NAMES) ja_nil)) (nomark _)) (jss_one (js_ret (je_ix (je_glob T.c_NAMES) (je_var 1)))) jss_nil)
    (jss_one (js_ret je_str))))
theorem sc_data_of : FnScope ["registers", "word", "name", "place"] ["registers", "word"] (defScope s_data_of) := ⟨rfl, rfl, rfl, by decide +kernel, rfl, by decide +kernel, by decide +kernel⟩
theorem bi_data_of (T : Tx K mg Cl) : Binds K T.d_data_of ["registers", "word"] [] := T.F_data_of.binds fun _ _ _ _ _ _ us hl => match us, hl with | [_, _], _ => rfl
theorem ok_data_of (T : Tx K mg Cl) : FnOk P w K mg base CX0 2 T.a_data_of T.d_data_of ["registers", "word"] (spM K Cl 2 m_data_of) := by
  refine fn_ok T.F_data_of sc_data_of rfl rfl fun cdv A outer s H E hr => ?_
  have hN := (sc_data_of).nd
  exact (jss_cons (js_set 2 hN (je_call (ok_name_of T) (hr.mono (by decide)) T.g_name_of T.F_name_of.kp (bi_name_of T) (let0 nox_def) (ja_cons (je_var 1) ja_nil)))
    (jss_cons (js_set 3 hN (je_op o_mod (je_var 1) (je_glob T.c_PLACES_machine)))
    (jss_cons (js_if (jt_cmp (o_in (room65 hr)) (je_var 2) (je_tup (ja_cons je_str (ja_cons je_str ja_nil))) rfl) (jss_one (js_set 3 hN (je_op o_mod (je_op o_add (je_var 3) (je_ix (je_var 0) je_int)) (je_glob T.c_PLACES_machine)))) jss_nil)
    (jss_cons (js_if (jt_cmp (o_in (room65 hr)) (je_var 2) (je_glob T.c_CHANGERS) rfl) (jss_one (js_ret (je_tup (ja_cons (je_var 3) (ja_cons je_bl ja_nil))))) jss_nil)
    (jss_cons (js_if (jt_w (jw_or (jt_cmp (o_in (room65 hr)) (je_var 2) (je_glob T.c_READERS) rfl) (jw_or1 (jt_cmp (o_in (room65 hr)) (je_var 2) (je_glob T.c_SIGNS) rfl)))) (jss_one (js_ret (je_tup (ja_cons (je_var 3) (ja_cons je_bl ja_nil))))) jss_nil)
    (jss_one (js_ret je_non)))))))
theorem sc_wrapped : FnScope ["number"] ["number"] (defScope s_wrapped) := ⟨rfl, rfl, rfl, by decide +kernel, rfl, by decide +kernel, by decide +kernel⟩
theorem bi_wrapped (T : Tx K mg Cl) : Binds K T.d_wrapped ["number"] [] := T.F_wrapped.binds fun _ _ _ _ _ _ us hl => match us, hl with | [_], _ => rfl
theorem ok_wrapped (T : Tx K mg Cl) : FnOk P w K mg base CX0 1 T.a_wrapped T.d_wrapped ["number"] (spM K Cl 1 m_wrapped) := by
  refine fn_ok T.F_wrapped sc_wrapped rfl rfl fun cdv A outer s H E hr => ?_
  have hN := (sc_wrapped).nd
  exact (jss_one (js_ret (je_op o_mod (je_var 0) (je_op o_add (je_glob T.c_MOST_WORD) je_int))))
theorem sc_compared : FnScope ["sign", "a", "b"] ["sign", "a", "b"] (defScope s_compared) := ⟨rfl, rfl, rfl, by decide +kernel, rfl, by decide +kernel, by decide +kernel⟩
theorem bi_compared (T : Tx K mg Cl) : Binds K T.d_compared ["sign", "a", "b"] [] := T.F_compared.binds fun _ _ _ _ _ _ us hl => match us, hl with | [_, _, _], _ => rfl
theorem ok_compared (T : Tx K mg Cl) : FnOk P w K mg base CX0 1 T.a_compared T.d_compared ["sign", "a", "b"] (spM K Cl 3 m_compared) := by
  refine fn_ok T.F_compared sc_compared rfl rfl fun cdv A outer s H E hr => ?_
  have hN := (sc_compared).nd
  exact (jss_cons (js_if (jt_cmp (o_in (room65 hr)) (je_var 0) (je_tup (ja_cons je_str (ja_cons je_str ja_nil))) rfl) (jss_one (js_ret (je_callTy c_int T.b_int PyProof.Rows.boot_int (ja_cons (je_or (je_cmp o_lt (je_var 1) (je_var 2) (nomark _)) (je_one (je_and (je_cmp (o_eq (room65 hr)) (je_var 0) je_str (nomark _)) (je_one (je_cmp (o_eq (room65 hr)) (je_var 1) (je_var 2) (nomark _)))))) ja_nil)))) jss_nil)
    (jss_cons (js_if (jt_cmp (o_in (room65 hr)) (je_var 0) (je_tup (ja_cons je_str (ja_cons je_str ja_nil))) rfl) (jss_one (js_ret (je_callTy c_int T.b_int PyProof.Rows.boot_int (ja_cons (je_or (je_cmp o_gt (je_var 1) (je_var 2) (nomark _)) (je_one (je_and (je_cmp (o_eq (room65 hr)) (je_var 0) je_str (nomark _)) (je_one (je_cmp (o_eq (room65 hr)) (je_var 1) (je_var 2) (nomark _)))))) ja_nil)))) jss_nil)
    (jss_one (js_ret (je_callTy c_int T.b_int PyProof.Rows.boot_int (ja_cons (je_cmp (o_eq (room65 hr)) (je_cmp (o_eq (room65 hr)) (je_var 1) (je_var 2) (nomark _)) (je_cmp (o_eq (room65 hr)) (je_var 0) je_str (nomark _)) (nomark _)) ja_nil))))))
theorem sc_op : FnScope ["sign", "a", "b"] ["sign", "a", "b"] (defScope s_op) := ⟨rfl, rfl, rfl, by decide +kernel, rfl, by decide +kernel, by decide +kernel⟩
theorem bi_op (T : Tx K mg Cl) : Binds K T.d_op ["sign", "a", "b"] [] := T.F_op.binds fun _ _ _ _ _ _ us hl => match us, hl with | [_, _, _], _ => rfl
theorem ok_op (T : Tx K mg Cl) : FnOk P w K mg base CX0 2 T.a_op T.d_op ["sign", "a", "b"] (spM K Cl 3 m_op) := by
  refine fn_ok T.F_op sc_op rfl rfl fun cdv A outer s H E hr => ?_
  have hN := (sc_op).nd
  exact (jss_cons (js_if (jt_cmp (o_eq (room65 hr)) (je_var 0) je_str (nomark _)) (jss_one (js_ret (je_call (ok_wrapped T) (hr.mono (by decide)) T.g_wrapped T.F_wrapped.kp (bi_wrapped T) (let0 nox_def) (ja_cons (je_op o_add (je_var 1) (je_var 2)) ja_nil)))) jss_nil)
    (jss_cons (js_if (jt_cmp (o_eq (room65 hr)) (je_var 0) je_str (nomark _)) (jss_one (js_ret (je_call (ok_wrapped T) (hr.mono (by decide)) T.g_wrapped T.F_wrapped.kp (bi_wrapped T) (let0 nox_def) (ja_cons (je_op o_sub (je_var 1) (je_var 2)) ja_nil)))) jss_nil)
    (jss_cons (js_if (jt_cmp (o_eq (room65 hr)) (je_var 0) je_str (nomark _)) (jss_one (js_ret (je_call (ok_wrapped T) (hr.mono (by decide)) T.g_wrapped T.F_wrapped.kp (bi_wrapped T) (let0 nox_def) (ja_cons (je_op o_mul (je_var 1) (je_var 2)) ja_nil)))) jss_nil)
    (jss_cons (js_if (jt_cmp (o_notIn (room65 hr)) (je_var 0) (je_tup (ja_cons je_str (ja_cons je_str ja_nil))) rfl) (jss_one (js_ret (je_call (ok_compared T) (hr.mono (by decide)) T.g_compared T.F_compared.kp (bi_compared T) (let0 nox_def) (ja_cons (je_var 0) (ja_cons (je_var 1) (ja_cons (je_var 2) ja_nil)))))) jss_nil)
    (jss_cons (js_if (jt_cmp (o_eq (room65 hr)) (je_var 2) je_int (nomark _)) (jss_one (js_ret je_non)) jss_nil)
    (jss_cons (js_if (jt_cmp (o_eq (room65 hr)) (je_var 0) je_str (nomark _)) (jss_one (js_ret (je_op o_fdiv (je_var 1) (je_var 2)))) jss_nil)
    (jss_one (js_ret (je_op o_mod (je_var 1) (je_var 2))))))))))
theorem sc_mark_of : FnScope ["registers", "word", "data", "_", "acc", "x", "count", "name"] ["registers", "word", "data"] (defScope s_mark_of) := ⟨rfl, rfl, rfl, by decide +kernel, rfl, by decide +kernel, by decide +kernel⟩
theorem bi_mark_of (T : Tx K mg Cl) : Binds K T.d_mark_of ["registers", "word", "data"] [] := T.F_mark_of.binds fun _ _ _ _ _ _ us hl => match us, hl with | [_, _, _], _ => rfl
theorem ok_mark_of (T : Tx K mg Cl) : FnOk P w K mg base CX0 3 T.a_mark_of T.d_mark_of ["registers", "word", "data"] (spM K Cl 3 m_mark_of) := by
  refine fn_ok T.F_mark_of sc_mark_of rfl rfl fun cdv A outer s H E hr => ?_
  have hN := (sc_mark_of).nd
  exact (jss_cons (js_asg (je_var 0) (jg_tup rfl (jgs_cons (jg_name 3 hN) (jgs_cons (jg_name 4 hN) (jgs_cons (jg_name 5 hN) (jgs_cons (jg_name 3 hN) (jgs_cons (jg_name 3 hN) (jgs_cons (jg_name 6 hN) jgs_nil))))))))
    (jss_cons (js_set 7 hN (je_call (ok_name_of T) (hr.mono (by decide)) T.g_name_of T.F_name_of.kp (bi_name_of T) (let0 nox_def) (ja_cons (je_var 1) ja_nil)))
    (jss_cons (js_if (jt_cmp (o_eq (room65 hr)) (je_var 7) je_str (nomark _)) (jss_one (js_ret je_str)) jss_nil)
    (jss_cons (js_if (jt_cmp (o_eq (room65 hr)) (je_var 7) je_str (nomark _)) (jss_one (js_ret je_str)) jss_nil)
    (jss_cons (js_if (jt_w (jw_and (jt_cmp (o_eq (room65 hr)) (je_var 7) je_str (nomark _)) (jw_and1 (jt_cmp o_ge (je_var 5) (je_op o_mod (je_var 1) (je_glob T.c_ARGUMENTS)) (nomark _))))) (jss_one (js_ret je_str)) jss_nil)
    (jss_cons (js_if (jt_w (jw_and (jt_cmp (o_eq (room65 hr)) (je_var 7) je_str (nomark _)) (jw_and1 (jt_cmp o_ge (je_var 5) (je_var 2) (nomark _))))) (jss_one (js_ret je_str)) jss_nil)
    (jss_cons (js_if (jt_w (jw_and (jt_cmp (o_in (room65 hr)) (je_var 7) (je_glob T.c_SIGNS) rfl) (jw_and1 (jt_cmp o_isN (je_call (ok_op T) (hr.mono (by decide)) T.g_op T.F_op.kp (bi_op T) (let0 nox_def) (ja_cons (je_var 7) (ja_cons (je_var 4) (ja_cons (je_var 2) ja_nil)))) je_non (nomark _))))) (jss_one (js_ret je_str)) jss_nil)
    (jss_cons (js_if (jt_w (jw_and (jt_cmp (o_eq (room65 hr)) (je_var 7) je_str (nomark _)) (jw_and1 (jt_cmp (o_eq (room65 hr)) (je_var 6) (je_glob T.c_MOST_TOLD) (nomark _))))) (jss_one (js_ret je_str)) jss_nil)
    (jss_one (js_ret je_non))))))))))
theorem sc_halted : FnScope ["registers", "mark", "pc", "acc", "x", "_", "out", "count"] ["registers", "mark"] (defScope s_halted) := ⟨rfl, rfl, rfl, by decide +kernel, rfl, by decide +kernel, by decide +kernel⟩
theorem bi_halted (T : Tx K mg Cl) : Binds K T.d_halted ["registers", "mark"] [] := T.F_halted.binds fun _ _ _ _ _ _ us hl => match us, hl with | [_, _], _ => rfl
theorem ok_halted (T : Tx K mg Cl) : FnOk P w K mg base CX0 1 T.a_halted T.d_halted ["registers", "mark"] (spM K Cl 2 m_halted) := by
  refine fn_ok T.F_halted sc_halted rfl rfl fun cdv A outer s H E hr => ?_
  have hN := (sc_halted).nd
  exact (jss_cons (js_asg (je_var 0) (jg_tup rfl (jgs_cons (jg_name 2 hN) (jgs_cons (jg_name 3 hN) (jgs_cons (jg_name 4 hN) (jgs_cons (jg_name 5 hN) (jgs_cons (jg_name 6 hN) (jgs_cons (jg_name 7 hN) jgs_nil))))))))
    (jss_one (js_ret (je_tup (ja_cons (je_var 2) (ja_cons (je_var 3) (ja_cons (je_var 4) (ja_cons (je_tix T.x_MARKS (je_var 1)) (ja_cons (je_var 6) (ja_cons (je_var 7) ja_nil))))))))))
theorem sc_Digests_fold : FnScope ["self", "left", "right", "mixed"] ["self", "left", "right"] (defScope s_Digests_fold) := ⟨rfl, rfl, rfl, by decide +kernel, rfl, by decide +kernel, by decide +kernel⟩
theorem bi_Digests_fold (T : Tx K mg Cl) : Binds K T.d_Digests_fold ["self", "left", "right"] [] := T.F_Digests_fold.binds fun _ _ _ _ _ _ us hl => match us, hl with | [_, _, _], _ => rfl
theorem ok_Digests_fold (T : Tx K mg Cl) : FnOk P w K mg base CX0 2 T.a_Digests_fold T.d_Digests_fold ["self", "left", "right"] (spM K Cl 3 m_Digests_fold) := by
  refine fn_ok T.F_Digests_fold sc_Digests_fold rfl rfl fun cdv A outer s H E hr => ?_
  have hN := (sc_Digests_fold).nd
  exact (jss_cons (js_set 3 hN (je_op o_add (je_op o_add (je_op o_mul je_int (je_var 1)) (je_op o_mul je_int (je_var 2))) je_int))
    (jss_one (js_ret (je_meth T.k_Digests T.m_Digests_kept (ok_Digests_kept T) (hr.mono (by decide)) (bi_Digests_kept T) (let0 nox_def) (je_var 0) (ja_cons je_str (ja_cons (je_tup (ja_cons (je_var 1) (ja_cons (je_var 2) ja_nil))) (ja_cons (je_op o_add (je_op o_add (je_op o_add (je_op o_add (je_op o_mul (je_var 2) (je_var 2)) (je_op o_mul je_int (je_var 1))) (je_op o_mul je_int (je_var 2))) je_int) (je_op o_mul (je_var 3) (je_var 3))) ja_nil)))))))
theorem sc_Digests_leaf : FnScope ["self", "word"] ["self", "word"] (defScope s_Digests_leaf) := ⟨rfl, rfl, rfl, by decide +kernel, rfl, by decide +kernel, by decide +kernel⟩
theorem bi_Digests_leaf (T : Tx K mg Cl) : Binds K T.d_Digests_leaf ["self", "word"] [] := T.F_Digests_leaf.binds fun _ _ _ _ _ _ us hl => match us, hl with | [_, _], _ => rfl
theorem ok_Digests_leaf (T : Tx K mg Cl) : FnOk P w K mg base CX0 2 T.a_Digests_leaf T.d_Digests_leaf ["self", "word"] (spM K Cl 2 m_Digests_leaf) := by
  refine fn_ok T.F_Digests_leaf sc_Digests_leaf rfl rfl fun cdv A outer s H E hr => ?_
  have hN := (sc_Digests_leaf).nd
  exact (jss_one (js_ret (je_meth T.k_Digests T.m_Digests_kept (ok_Digests_kept T) (hr.mono (by decide)) (bi_Digests_kept T) (let0 nox_def) (je_var 0) (ja_cons je_str (ja_cons (je_var 1) (ja_cons (je_op o_add (je_op o_mul je_int (je_var 1)) je_int) ja_nil))))))
theorem sc_pc_behind : FnScope ["pc", "acc", "word", "data", "name", "place"] ["pc", "acc", "word", "data"] (defScope s_pc_behind) := ⟨rfl, rfl, rfl, by decide +kernel, rfl, by decide +kernel, by decide +kernel⟩
theorem bi_pc_behind (T : Tx K mg Cl) : Binds K T.d_pc_behind ["pc", "acc", "word", "data"] [] := T.F_pc_behind.binds fun _ _ _ _ _ _ us hl => match us, hl with | [_, _, _, _], _ => rfl
theorem ok_pc_behind (T : Tx K mg Cl) : FnOk P w K mg base CX0 2 T.a_pc_behind T.d_pc_behind ["pc", "acc", "word", "data"] (spM K Cl 4 m_pc_behind) := by
  refine fn_ok T.F_pc_behind sc_pc_behind rfl rfl fun cdv A outer s H E hr => ?_
  have hN := (sc_pc_behind).nd
  exact (jss_cons (js_set 4 hN (je_call (ok_name_of T) (hr.mono (by decide)) T.g_name_of T.F_name_of.kp (bi_name_of T) (let0 nox_def) (ja_cons (je_var 2) ja_nil)))
    (jss_cons (js_set 5 hN (je_op o_mod (je_var 2) (je_glob T.c_PLACES_machine)))
    (jss_cons (js_if (jt_w (jw_or (jt_cmp (o_eq (room65 hr)) (je_var 4) je_str (nomark _)) (jw_or (jt_w (jw_and (jt_cmp (o_eq (room65 hr)) (je_var 4) je_str (nomark _)) (jw_and1 (jt_cmp (o_eq (room65 hr)) (je_var 1) je_int (nomark _))))) (jw_or1 (jt_w (jw_and (jt_cmp (o_eq (room65 hr)) (je_var 4) je_str (nomark _)) (jw_and1 (jt_cmp (o_ne (room65 hr)) (je_var 1) je_int (nomark _))))))))) (jss_one (js_ret (je_var 5))) jss_nil)
    (jss_cons (js_if (jt_cmp (o_eq (room65 hr)) (je_var 4) je_str (nomark _)) (jss_one (js_ret (je_op o_mod (je_op o_add (je_var 5) je_int) (je_glob T.c_PLACES_machine)))) jss_nil)
    (jss_cons (js_if (jt_cmp (o_eq (room65 hr)) (je_var 4) je_str (nomark _)) (jss_one (js_ret (je_op o_mod (je_var 3) (je_glob T.c_PLACES_machine)))) jss_nil)
    (jss_one (js_ret (je_op o_mod (je_op o_add (je_var 0) je_int) (je_glob T.c_PLACES_machine)))))))))
theorem sc_acc_behind : FnScope ["acc", "name", "argument", "data"] ["acc", "name", "argument", "data"] (defScope s_acc_behind) := ⟨rfl, rfl, rfl, by decide +kernel, rfl, by decide +kernel, by decide +kernel⟩
theorem bi_acc_behind (T : Tx K mg Cl) : Binds K T.d_acc_behind ["acc", "name", "argument", "data"] [] := T.F_acc_behind.binds fun _ _ _ _ _ _ us hl => match us, hl with | [_, _, _, _], _ => rfl
theorem ok_acc_behind (T : Tx K mg Cl) : FnOk P w K mg base CX0 3 T.a_acc_behind T.d_acc_behind ["acc", "name", "argument", "data"] (spM K Cl 4 m_acc_behind) := by
  refine fn_ok T.F_acc_behind sc_acc_behind rfl rfl fun cdv A outer s H E hr => ?_
  have hN := (sc_acc_behind).nd
  exact (jss_cons (js_if (jt_cmp (o_eq (room65 hr)) (je_var 1) je_str (nomark _)) (jss_one (js_ret (je_var 2))) jss_nil)
    (jss_cons (js_if (jt_cmp (o_in (room65 hr)) (je_var 1) (je_tup (ja_cons je_str (ja_cons je_str ja_nil))) rfl) (jss_one (js_ret (je_var 3))) jss_nil)
    (jss_cons (js_if (jt_cmp (o_eq (room65 hr)) (je_var 1) je_str (nomark _)) (jss_one (js_ret (je_callTy c_int T.b_int PyProof.Rows.boot_int (ja_cons (je_cmp (o_eq (room65 hr)) (je_var 0) je_int (nomark _)) ja_nil)))) jss_nil)
    (jss_cons (js_if (jt_cmp (o_in (room65 hr)) (je_var 1) (je_glob T.c_SIGNS) rfl) (jss_one (js_ret (je_call (ok_op T) (hr.mono (by decide)) T.g_op T.F_op.kp (bi_op T) (let0 nox_def) (ja_cons (je_var 1) (ja_cons (je_var 0) (ja_cons (je_var 3) ja_nil)))))) jss_nil)
    (jss_one (js_ret (je_var 0)))))))
theorem sc_done_by : FnScope ["digests", "registers", "word", "data", "mark", "pc", "acc", "x", "_", "out", "count", "name", "written", "behind"] ["digests", "registers", "word", "data"] (defScope s_done_by) := ⟨rfl, rfl, rfl, by decide +kernel, rfl, by decide +kernel, by decide +kernel⟩
theorem bi_done_by (T : Tx K mg Cl) : Binds K T.d_done_by ["digests", "registers", "word", "data"] [] := T.F_done_by.binds fun _ _ _ _ _ _ us hl => match us, hl with | [_, _, _, _], _ => rfl
theorem ok_done_by (T : Tx K mg Cl) : FnOk P w K mg base CX0 4 T.a_done_by T.d_done_by ["digests", "registers", "word", "data"] (spM K Cl 4 m_done_by) := by
  refine fn_ok T.F_done_by sc_done_by rfl rfl fun cdv A outer s H E hr => ?_
  have hN := (sc_done_by).nd
  exact (jss_cons (js_set 4 hN (je_call (ok_mark_of T) (hr.mono (by decide)) T.g_mark_of T.F_mark_of.kp (bi_mark_of T) (let0 nox_def) (ja_cons (je_var 1) (ja_cons (je_var 2) (ja_cons (je_var 3) ja_nil)))))
    (jss_cons (js_if (jt_cmp o_notN (je_var 4) je_non (nomark _)) (jss_one (js_ret (je_tup (ja_cons (je_call (ok_halted T) (hr.mono (by decide)) T.g_halted T.F_halted.kp (bi_halted T) (let0 nox_def) (ja_cons (je_var 1) (ja_cons (je_var 4) ja_nil))) (ja_cons je_non ja_nil))))) jss_nil)
    (jss_cons (js_asg (je_var 1) (jg_tup rfl (jgs_cons (jg_name 5 hN) (jgs_cons (jg_name 6 hN) (jgs_cons (jg_name 7 hN) (jgs_cons (jg_name 8 hN) (jgs_cons (jg_name 9 hN) (jgs_cons (jg_name 10 hN) jgs_nil))))))))
    (jss_cons (js_set 11 hN (je_call (ok_name_of T) (hr.mono (by decide)) T.g_name_of T.F_name_of.kp (bi_name_of T) (let0 nox_def) (ja_cons (je_var 2) ja_nil)))
    (jss_cons (js_set 12 hN je_non)
    (jss_cons (js_if (jt_cmp (o_in (room65 hr)) (je_var 11) (je_tup (ja_cons je_str (ja_cons je_str ja_nil))) rfl) (jss_one (js_set 12 hN (je_var 6))) jss_nil)
    (jss_cons (js_if (jt_cmp (o_eq (room65 hr)) (je_var 11) je_str (nomark _)) (jss_one (js_set 12 hN (je_op o_mod (je_op o_add (je_var 5) je_int) (je_glob T.c_PLACES_machine)))) jss_nil)
    (jss_cons (js_if (jt_cmp (o_eq (room65 hr)) (je_var 11) je_str (nomark _)) (jss_one (js_set 7 hN (je_var 6))) jss_nil)
    (jss_cons (js_if (jt_cmp (o_eq (room65 hr)) (je_var 11) je_str (nomark _)) (jss_one (js_set 7 hN (je_var 3))) jss_nil)
    (jss_cons (js_if (jt_cmp (o_eq (room65 hr)) (je_var 11) je_str (nomark _)) (jss_cons (js_set 9 hN (je_meth T.k_Digests T.m_Digests_fold (ok_Digests_fold T) (hr.mono (by decide)) (bi_Digests_fold T) (let0 nox_def) (je_var 0) (ja_cons (je_var 9) (ja_cons (je_meth T.k_Digests T.m_Digests_leaf (ok_Digests_leaf T) (hr.mono (by decide)) (bi_Digests_leaf T) (let0 nox_def) (je_var 0) (ja_cons (je_var 6) ja_nil)) ja_nil))))
    (jss_one (js_aug 10 hN ip_add je_int))) jss_nil)
    (jss_cons (js_set 13 hN (je_call (ok_pc_behind T) (hr.mono (by decide)) T.g_pc_behind T.F_pc_behind.kp (bi_pc_behind T) (let0 nox_def) (ja_cons (je_var 5) (ja_cons (je_var 6) (ja_cons (je_var 2) (ja_cons (je_var 3) ja_nil))))))
    (jss_one (js_ret (je_tup (ja_cons (je_tup (ja_cons (je_var 13) (ja_cons (je_call (ok_acc_behind T) (hr.mono (by decide)) T.g_acc_behind T.F_acc_behind.kp (bi_acc_behind T) (let0 nox_def) (ja_cons (je_var 6) (ja_cons (je_var 11) (ja_cons (je_op o_mod (je_var 2) (je_glob T.c_ARGUMENTS)) (ja_cons (je_var 3) ja_nil))))) (ja_cons (je_var 7) (ja_cons je_int (ja_cons (je_var 9) (ja_cons (je_var 10) ja_nil))))))) (ja_cons (je_var 12) ja_nil))))))))))))))))
theorem sc_Memory_change : FnScope ["self", "place", "word", "digest", "row", "pair"] ["self", "place", "word"] (defScope s_Memory_change) := ⟨rfl, rfl, rfl, by decide +kernel, rfl, by decide +kernel, by decide +kernel⟩
theorem bi_Memory_change (T : Tx K mg Cl) : Binds K T.d_Memory_change ["self", "place", "word"] [] := T.F_Memory_change.binds fun _ _ _ _ _ _ us hl => match us, hl with | [_, _, _], _ => rfl
theorem ok_Memory_change (T : Tx K mg Cl) : FnOk P w K mg base CX0 3 T.a_Memory_change T.d_Memory_change ["self", "place", "word"] (spM K Cl 3 m_Memory_change) := by
  refine fn_ok T.F_Memory_change sc_Memory_change rfl rfl fun cdv A outer s H E hr => ?_
  have hN := (sc_Memory_change).nd
  exact (jss_cons (js_asg (je_var 2) (jg_sub (E := E0) (je_fld T.k_Memory T.n_Memory__words (je_var 0)) (je_var 1)))
    (jss_cons (js_set 3 hN (je_meth T.k_Digests T.m_Digests_leaf (ok_Digests_leaf T) (hr.mono (by decide)) (bi_Digests_leaf T) (let0 nox_def) (je_fld T.k_Memory T.n_Memory__digests (je_var 0)) (ja_cons (je_var 2) ja_nil)))
    (jss_cons (js_for PassesOwn.never rfl (ji_lst (je_sl (je_fld T.k_Memory T.n_Memory__rows (je_var 0)) jo_none (jo_some (je_un u_neg je_int)))) (jg_name 4 hN) (jss_cons (js_asg (je_var 3) (jg_sub (E := E0) (je_var 4) (je_var 1)))
    (jss_cons (js_set 5 hN (je_op o_sub (je_var 1) (je_op o_mod (je_var 1) je_int)))
    (jss_cons (js_set 3 hN (je_meth T.k_Digests T.m_Digests_fold (ok_Digests_fold T) (hr.mono (by decide)) (bi_Digests_fold T) (let0 nox_def) (je_fld T.k_Memory T.n_Memory__digests (je_var 0)) (ja_cons (je_ix (je_var 4) (je_var 5)) (ja_cons (je_ix (je_var 4) (je_op o_add (je_var 5) je_int)) ja_nil))))
    (jss_one (js_set 1 hN (je_op o_fdiv (je_var 1) je_int)))))))
    (jss_one (js_asg (je_lstS (ja_cons (je_var 3) ja_nil)) (jg_sub (E := E0) (je_fld T.k_Memory T.n_Memory__rows (je_var 0)) (je_un u_neg je_int)))))))
theorem sc_Machine_step : FnScope ["self", "before", "word", "other", "data", "written"] ["self"] (defScope s_Machine_step) := ⟨rfl, rfl, rfl, by decide +kernel, rfl, by decide +kernel, by decide +kernel⟩
theorem bi_Machine_step (T : Tx K mg Cl) : Binds K T.d_Machine_step ["self"] [] := T.F_Machine_step.binds fun _ _ _ _ _ _ us hl => match us, hl with | [_], _ => rfl
theorem ok_Machine_step (T : Tx K mg Cl) : FnOk P w K mg base CX0 5 T.a_Machine_step T.d_Machine_step ["self"] (spM K Cl 1 m_Machine_step) := by
  refine fn_ok T.F_Machine_step sc_Machine_step rfl rfl fun cdv A outer s H E hr => ?_
  have hN := (sc_Machine_step).nd
  exact (jss_cons (js_set 1 hN (je_fld T.k_Machine T.n_Machine__registers (je_var 0)))
    (jss_cons (js_if (jt_cmp (o_ne (room65 hr)) (je_ix (je_var 1) je_int) je_int (nomark _)) (jss_one js_retN) jss_nil)
    (jss_cons (js_set 2 hN (je_meth T.k_Memory T.m_Memory_word (ok_Memory_word T) (hr.mono (by decide)) (bi_Memory_word T) (let0 nox_def) (je_fld T.k_Machine T.n_Machine__memory (je_var 0)) (ja_cons (je_ix (je_var 1) je_int) ja_nil)))
    (jss_cons (js_set 3 hN (je_call (ok_data_of T) (hr.mono (by decide)) T.g_data_of T.F_data_of.kp (bi_data_of T) (let0 nox_def) (ja_cons (je_var 1) (ja_cons (je_var 2) ja_nil))))
    (jss_cons (js_set 4 hN je_non)
    (jss_cons (js_if (jt_cmp o_notN (je_var 3) je_non (nomark _)) (jss_one (js_set 4 hN (je_meth T.k_Memory T.m_Memory_word (ok_Memory_word T) (hr.mono (by decide)) (bi_Memory_word T) (let0 nox_def) (je_fld T.k_Machine T.n_Machine__memory (je_var 0)) (ja_cons (je_ix (je_var 3) je_int) ja_nil)))) jss_nil)
    (jss_cons (js_asg (je_call (ok_done_by T) (hr.mono (by decide)) T.g_done_by T.F_done_by.kp (bi_done_by T) (let0 nox_def) (ja_cons (je_fld T.k_Machine T.n_Machine__digests (je_var 0)) (ja_cons (je_var 1) (ja_cons (je_var 2) (ja_cons (je_var 4) ja_nil))))) (jg_tup rfl (jgs_cons (jg_fld (E := E0) T.k_Machine T.n_Machine__registers (je_var 0)) (jgs_cons (jg_name 5 hN) jgs_nil))))
    (jss_cons (js_if (jt_cmp o_notN (je_var 5) je_non (nomark _)) (jss_one (js_expr (je_meth T.k_Memory T.m_Memory_change (ok_Memory_change T) (hr.mono (by decide)) (bi_Memory_change T) (let0 nox_def) (je_fld T.k_Machine T.n_Machine__memory (je_var 0)) (ja_cons (je_ix (je_var 3) je_int) (ja_cons (je_var 5) ja_nil))))) jss_nil)
    (jss_one (js_if (jt_cmp o_gt (je_ix (je_fld T.k_Machine T.n_Machine__registers (je_var 0)) je_int) (je_ix (je_var 1) je_int) (nomark _)) (jss_one (js_fld T.k_Machine T.n_Machine__told (je_var 0) (je_op o_add (je_fld T.k_Machine T.n_Machine__told (je_var 0)) (je_tup (ja_cons (je_ix (je_var 1) je_int) ja_nil))))) jss_nil))))))))))
theorem sc_L_draws : FnScope ["_law_script", "_law_start", "_law_most", "_law_draws_here", "_law_cell", "_law_number", "_law_mixed", "_law_k"] ["_law_script", "_law_start", "_law_most"] (defScope s_L_draws) := ⟨rfl, rfl, rfl, by decide +kernel, rfl, by decide +kernel, by decide +kernel⟩
theorem bi_L_draws (T : Tx K mg Cl) : Binds K T.d_L_draws ["_law_script", "_law_start", "_law_most"] [] := T.F_L_draws.binds fun _ _ _ _ _ _ us hl => match us, hl with | [_, _, _], _ => rfl
theorem ok_L_draws (T : Tx K mg Cl) : FnOk P w K mg base CX0 1 T.a_L_draws T.d_L_draws ["_law_script", "_law_start", "_law_most"] (spM K Cl 3 m_L_draws) := by
  refine fn_ok T.F_L_draws sc_L_draws rfl rfl fun cdv A outer s H E hr => ?_
  have hN := (sc_L_draws).nd
  exact (jss_cons (js_set 3 hN (je_lstS ja_nil))
    (jss_cons (js_for PassesOwn.never rfl (ji_lst (je_sl (je_var 0) (jo_some (je_var 1)) jo_none)) (jg_name 4 hN) (jss_cons (js_set 5 hN (je_callB c_abs T.b_abs PyProof.Rows.boot_abs (ja_cons (je_callTy c_int T.b_int PyProof.Rows.boot_int (ja_cons (je_var 4) ja_nil)) ja_nil)))
    (jss_one (js_if (jt_cmp o_lt (je_var 5) (je_op o_pow je_int je_int) (nomark _)) (jss_cons (js_set 6 hN (je_op o_mod (je_callTy c_int T.b_int PyProof.Rows.boot_int (ja_cons (je_op o_add (je_op o_mul (je_var 5) je_int) je_int) ja_nil)) je_int))
    (jss_cons (js_expr (je_lm PySem.F.slot_list_append PySem.F.type_list_append m_app (je_var 3) (ja_cons (je_op o_add (je_op o_mul (je_var 6) je_int) (je_op o_mod (je_callTy c_int T.b_int PyProof.Rows.boot_int (ja_cons (je_op o_add (je_op o_mul (je_var 6) je_int) (je_var 5)) ja_nil)) je_int)) ja_nil)))
    (jss_one (js_expr (je_lm PySem.F.slot_list_append PySem.F.type_list_append m_app (je_var 3) (ja_cons (je_op o_add (je_op o_mul (je_op o_mod (je_callTy c_int T.b_int PyProof.Rows.boot_int (ja_cons (je_op o_add (je_op o_add (je_op o_mul (je_var 6) je_int) (je_op o_fdiv (je_var 5) je_int)) je_int) ja_nil)) je_int) je_int) (je_op o_mod (je_var 5) je_int)) ja_nil)))))) (jss_one (js_for PassesOwn.never rfl (ji_rng1 T.b_range (ja_cons je_int ja_nil)) (jg_name 7 hN) (jss_cons (js_if (jt_cmp o_gt (je_var 5) je_int (nomark _)) (jss_one (js_expr (je_lm PySem.F.slot_list_append PySem.F.type_list_append m_app (je_var 3) (ja_cons (je_op o_mod (je_callTy c_int T.b_int PyProof.Rows.boot_int (ja_cons (je_var 5) ja_nil)) (je_op o_pow je_int je_int)) ja_nil)))) jss_nil)
    (jss_one (js_set 5 hN (je_op o_fdiv (je_var 5) (je_op o_pow je_int je_int)))))))))))
    (jss_one (js_ret (je_sl (je_var 3) jo_none (jo_some (je_var 2)))))))
theorem sc_Digests_init : FnScope ["self", "bits", "book"] ["self", "bits", "book"] (defScope s_Digests_init) := ⟨rfl, rfl, rfl, by decide +kernel, rfl, by decide +kernel, by decide +kernel⟩
theorem bi_Digests_init (T : Tx K mg Cl) : Binds K T.d_Digests_init ["self", "bits", "book"] [] := T.F_Digests_init.binds fun _ _ _ _ _ _ us hl => match us, hl with | [_, _, _], _ => rfl
theorem ok_Digests_init (T : Tx K mg Cl) : FnOk P w K mg base CX0 1 T.a_Digests_init T.d_Digests_init ["self", "bits", "book"] (spM K Cl 3 m_Digests_init) := by
  refine fn_ok T.F_Digests_init sc_Digests_init rfl rfl fun cdv A outer s H E hr => ?_
  have hN := (sc_Digests_init).nd
  exact (jss_cons (js_fld T.k_Digests T.n_Digests__bits (je_var 0) (je_var 1))
    (jss_cons (js_fld T.k_Digests T.n_Digests__modulus (je_var 0) (je_op o_sub (je_op o_shl je_int (je_var 1)) je_int))
    (jss_one (js_fld T.k_Digests T.n_Digests__book (je_var 0) (je_var 2)))))
theorem sc_L_words : FnScope ["_law_draws_here", "_law_count", "_law_row", "_law_k", "_law_draw", "_law_number"] ["_law_draws_here", "_law_count"] (defScope s_L_words) := ⟨rfl, rfl, rfl, by decide +kernel, rfl, by decide +kernel, by decide +kernel⟩
theorem bi_L_words (T : Tx K mg Cl) : Binds K T.d_L_words ["_law_draws_here", "_law_count"] [] := T.F_L_words.binds fun _ _ _ _ _ _ us hl => match us, hl with | [_, _], _ => rfl
theorem ok_L_words (T : Tx K mg Cl) : FnOk P w K mg base CX0 1 T.a_L_words T.d_L_words ["_law_draws_here", "_law_count"] (spM K Cl 2 m_L_words) := by
  refine fn_ok T.F_L_words sc_L_words rfl rfl fun cdv A outer s H E hr => ?_
  have hN := (sc_L_words).nd
  exact (jss_cons (js_set 2 hN (je_lstS ja_nil))
    (jss_cons (js_for PassesOwn.never rfl (ji_rng1 T.b_range (ja_cons (je_var 1) ja_nil)) (jg_name 3 hN) (jss_cons (js_set 4 hN (je_op o_add (je_op o_fdiv (je_ix (je_var 0) (je_op o_mod (je_var 3) (je_callB c_len T.b_len PySem.boot_len (ja_cons (je_var 0) ja_nil)))) (je_op o_add (je_var 3) je_int)) (je_op o_mul je_int (je_var 3))))
    (jss_cons (js_set 5 hN (je_ix (je_lst (ja_cons je_int (ja_cons je_int (ja_cons je_int (ja_cons je_int (ja_cons je_int (ja_cons je_int (ja_cons je_int (ja_cons je_int (ja_cons je_int (ja_cons je_int (ja_cons je_int (ja_cons je_int (ja_cons je_int (ja_cons je_int (ja_cons je_int (ja_cons je_int (ja_cons je_int (ja_cons je_int (ja_cons je_int (ja_cons je_int (ja_cons je_int (ja_cons je_int (ja_cons je_int (ja_cons je_int (ja_cons je_int ja_nil)))))))))))))))))))))))))) (je_op o_mod (je_var 4) je_int)))
    (jss_one (js_expr (je_lm PySem.F.slot_list_append PySem.F.type_list_append m_app (je_var 2) (ja_cons (je_op o_add (je_op o_mul je_int (je_var 5)) (je_op o_mod (je_op o_fdiv (je_var 4) je_int) (je_ix (je_lst (ja_cons je_int (ja_cons je_int (ja_cons je_int ja_nil)))) (je_op o_mod (je_op o_fdiv (je_var 4) je_int) je_int)))) ja_nil)))))))
    (jss_one (js_ret (je_callTy c_tuple T.b_tuple PyProof.Rows.boot_tuple (ja_cons (je_op o_add (je_var 2) (je_op o_mul (je_lst (ja_cons je_int ja_nil)) (je_op o_sub je_int (je_var 1)))) ja_nil))))))
theorem sc_folded : FnScope ["digests", "row", "place"] ["digests", "row"] (defScope s_folded) := ⟨rfl, rfl, rfl, by decide +kernel, rfl, by decide +kernel, by decide +kernel⟩
theorem bi_folded (T : Tx K mg Cl) : Binds K T.d_folded ["digests", "row"] [] := T.F_folded.binds fun _ _ _ _ _ _ us hl => match us, hl with | [_, _], _ => rfl
theorem ok_folded (T : Tx K mg Cl) : FnOk P w K mg base CX0 3 T.a_folded T.d_folded ["digests", "row"] (spM K Cl 2 m_folded) := by
  refine fn_ok T.F_folded sc_folded rfl rfl fun cdv A outer s H E hr => ?_
  have hN := (sc_folded).nd
  exact (jss_one (js_ret (je_lcS rfl hN (ji_rngC T.b_range (ja_cons je_int (ja_cons (je_callB c_len T.b_len PySem.boot_len (ja_cons (je_var 1) ja_nil)) (ja_cons je_int ja_nil)))) (blkOk_by (own := [("place", 2)]) (by show blkC ["digests", "row", "place"] (defScope s_folded) _ [("place", 2)] = true; decide +kernel)) (fun _ _ _ _ _ => (jn_nm 2 hN)) (fun _ _ _ _ _ => jts_nil) (fun _ _ _ _ _ => (je_meth T.k_Digests T.m_Digests_fold (ok_Digests_fold T) (hr.mono (by decide)) (bi_Digests_fold T) (let0 nox_def) (je_var 0) (ja_cons (je_ix (je_var 1) (je_var 2)) (ja_cons (je_ix (je_var 1) (je_op o_add (je_var 2) je_int)) ja_nil)))))))
theorem sc_Memory_init : FnScope ["self", "digests", "words", "word"] ["self", "digests", "words"] (defScope s_Memory_init) := ⟨rfl, rfl, rfl, by decide +kernel, rfl, by decide +kernel, by decide +kernel⟩
theorem bi_Memory_init (T : Tx K mg Cl) : Binds K T.d_Memory_init ["self", "digests", "words"] [] := T.F_Memory_init.binds fun _ _ _ _ _ _ us hl => match us, hl with | [_, _, _], _ => rfl
theorem ok_Memory_init (T : Tx K mg Cl) : FnOk P w K mg base CX0 4 T.a_Memory_init T.d_Memory_init ["self", "digests", "words"] (spM K Cl 3 m_Memory_init) := by
  refine fn_ok T.F_Memory_init sc_Memory_init rfl rfl fun cdv A outer s H E hr => ?_
  have hN := (sc_Memory_init).nd
  exact (jss_cons (js_fld T.k_Memory T.n_Memory__digests (je_var 0) (je_var 1))
    (jss_cons (js_fld T.k_Memory T.n_Memory__words (je_var 0) (je_op o_addS (je_callTy c_list T.b_list PyProof.Rows.boot_list (ja_cons (je_var 2) ja_nil)) (je_op o_mul (je_lst (ja_cons je_int ja_nil)) (je_op o_sub (je_glob T.c_PLACES_trees) (je_callB c_len T.b_len PySem.boot_len (ja_cons (je_var 2) ja_nil))))))
    (jss_cons (js_fld T.k_Memory T.n_Memory__rows (je_var 0) (je_lstS (ja_cons (je_lcS rfl hN (ji_lst (je_fld T.k_Memory T.n_Memory__words (je_var 0))) (blkOk_by (own := [("word", 3)]) (by show blkC ["self", "digests", "words", "word"] (defScope s_Memory_init) _ [("word", 3)] = true; decide +kernel)) (fun _ _ _ _ _ => (jn_nm 3 hN)) (fun _ _ _ _ _ => jts_nil) (fun _ _ _ _ _ => (je_meth T.k_Digests T.m_Digests_leaf (ok_Digests_leaf T) (hr.mono (by decide)) (bi_Digests_leaf T) (let0 nox_def) (je_var 1) (ja_cons (je_var 3) ja_nil)))) ja_nil)))
    (jss_one (js_while 9 PassesOwn.never (jt_cmp o_gt (je_callB c_len T.b_len PySem.boot_len (ja_cons (je_ix (je_fld T.k_Memory T.n_Memory__rows (je_var 0)) (je_un u_neg je_int)) ja_nil)) je_int (nomark _)) (jss_one (js_expr (je_lm PySem.F.slot_list_append PySem.F.type_list_append m_app (je_fld T.k_Memory T.n_Memory__rows (je_var 0)) (ja_cons (je_call (ok_folded T) (hr.mono (by decide)) T.g_folded T.F_folded.kp (bi_folded T) (let0 nox_def) (ja_cons (je_var 1) (ja_cons (je_ix (je_fld T.k_Memory T.n_Memory__rows (je_var 0)) (je_un u_neg je_int)) ja_nil))) ja_nil)))))))))
theorem sc_Machine_init : FnScope ["self", "digests", "registers", "words"] ["self", "digests", "registers", "words"] (defScope s_Machine_init) := ⟨rfl, rfl, rfl, by decide +kernel, rfl, by decide +kernel, by decide +kernel⟩
theorem bi_Machine_init (T : Tx K mg Cl) : Binds K T.d_Machine_init ["self", "digests", "registers", "words"] [] := T.F_Machine_init.binds fun _ _ _ _ _ _ us hl => match us, hl with | [_, _, _, _], _ => rfl
theorem ok_Machine_init (T : Tx K mg Cl) : FnOk P w K mg base CX0 6 T.a_Machine_init T.d_Machine_init ["self", "digests", "registers", "words"] (spM K Cl 4 m_Machine_init) := by
  refine fn_ok T.F_Machine_init sc_Machine_init rfl rfl fun cdv A outer s H E hr => ?_
  have hN := (sc_Machine_init).nd
  exact (jss_cons (js_fld T.k_Machine T.n_Machine__digests (je_var 0) (je_var 1))
    (jss_cons (js_fld T.k_Machine T.n_Machine__registers (je_var 0) (je_var 2))
    (jss_cons (js_fld T.k_Machine T.n_Machine__memory (je_var 0) (je_make T.M_Memory (ok_Memory_init T) (hr.mono (by decide)) T.g_Memory (bi_Memory_init T) (let0 nox_def) (ja_cons (je_var 1) (ja_cons (je_var 3) ja_nil))))
    (jss_one (js_fld T.k_Machine T.n_Machine__told (je_var 0) (je_tup ja_nil))))))
theorem sc_first_registers : FnScope [] [] (defScope s_first_registers) := ⟨rfl, rfl, rfl, by decide +kernel, rfl, by decide +kernel, by decide +kernel⟩
theorem bi_first_registers (T : Tx K mg Cl) : Binds K T.d_first_registers [] [] := T.F_first_registers.binds fun _ _ _ _ _ _ us hl => match us, hl with | [], _ => rfl
theorem ok_first_registers (T : Tx K mg Cl) : FnOk P w K mg base CX0 1 T.a_first_registers T.d_first_registers [] (spM K Cl 0 m_first_registers) := by
  refine fn_ok T.F_first_registers sc_first_registers rfl rfl fun cdv A outer s H E hr => ?_
  have hN := (sc_first_registers).nd
  exact (jss_one (js_ret (je_tup (ja_cons je_int (ja_cons je_int (ja_cons je_int (ja_cons je_int (ja_cons (je_glob T.c_FIRST_OUT) (ja_cons je_int ja_nil)))))))))
theorem sc_out_of : FnScope ["digests", "words", "out", "word"] ["digests", "words"] (defScope s_out_of) := ⟨rfl, rfl, rfl, by decide +kernel, rfl, by decide +kernel, by decide +kernel⟩
theorem bi_out_of (T : Tx K mg Cl) : Binds K T.d_out_of ["digests", "words"] [] := T.F_out_of.binds fun _ _ _ _ _ _ us hl => match us, hl with | [_, _], _ => rfl
theorem ok_out_of (T : Tx K mg Cl) : FnOk P w K mg base CX0 3 T.a_out_of T.d_out_of ["digests", "words"] (spM K Cl 2 m_out_of) := by
  refine fn_ok T.F_out_of sc_out_of rfl rfl fun cdv A outer s H E hr => ?_
  have hN := (sc_out_of).nd
  exact (jss_cons (js_set 2 hN (je_glob T.c_FIRST_OUT))
    (jss_cons (js_for PassesOwn.never rfl (ji_tup (je_var 1)) (jg_name 3 hN) (jss_one (js_set 2 hN (je_meth T.k_Digests T.m_Digests_fold (ok_Digests_fold T) (hr.mono (by decide)) (bi_Digests_fold T) (let0 nox_def) (je_var 0) (ja_cons (je_var 2) (ja_cons (je_meth T.k_Digests T.m_Digests_leaf (ok_Digests_leaf T) (hr.mono (by decide)) (bi_Digests_leaf T) (let0 nox_def) (je_var 0) (ja_cons (je_var 3) ja_nil)) ja_nil))))))
    (jss_one (js_ret (je_var 2)))))
theorem sc_History_following : FnScope ["self", "machine", "number", "told", "before", "words", "pc", "acc", "x", "registers"] ["self", "machine", "number", "told"] (defScope s_History_following) := ⟨rfl, rfl, rfl, by decide +kernel, rfl, by decide +kernel, by decide +kernel⟩
theorem bi_History_following (T : Tx K mg Cl) : Binds K T.d_History_following ["self", "machine", "number", "told"] [] := T.F_History_following.binds fun _ _ _ _ _ _ us hl => match us, hl with | [_, _, _, _], _ => rfl
theorem ok_History_following (T : Tx K mg Cl) : FnOk P w K mg base CX0 8 T.a_History_following T.d_History_following ["self", "machine", "number", "told"] (spM K Cl 4 m_History_following) := by
  refine fn_ok T.F_History_following sc_History_following rfl rfl fun cdv A outer s H E hr => ?_
  have hN := (sc_History_following).nd
  exact (jss_cons (js_set 4 hN (je_meth0 T.k_Machine T.m_Machine_told (ok_Machine_told T) (hr.mono (by decide)) (bi_Machine_told T) (let0 nox_def) (je_var 1)))
    (jss_cons (js_expr (je_meth0 T.k_Machine T.m_Machine_step (ok_Machine_step T) (hr.mono (by decide)) (bi_Machine_step T) (let0 nox_def) (je_var 1)))
    (jss_cons (js_set 3 hN (je_op o_add (je_var 3) (je_sl (je_meth0 T.k_Machine T.m_Machine_told (ok_Machine_told T) (hr.mono (by decide)) (bi_Machine_told T) (let0 nox_def) (je_var 1)) (jo_some (je_callB c_len T.b_len PySem.boot_len (ja_cons (je_var 4) ja_nil))) jo_none)))
    (jss_cons (js_if (jt_w (jw_or (jt_cmp o_isN (je_fld T.k_History T.n_History__turn (je_var 0)) je_non (nomark _)) (jw_or1 (jt_cmp (o_ne (room65 hr)) (je_ix (je_fld T.k_History T.n_History__turn (je_var 0)) je_int) (je_op o_add (je_var 2) je_int) (nomark _))))) (jss_one (js_ret (je_tup (ja_cons (je_var 1) (ja_cons (je_var 3) ja_nil))))) jss_nil)
    (jss_cons (js_if (jt_cmp (o_eq (room65 hr)) (je_ix (je_fld T.k_History T.n_History__turn (je_var 0)) je_int) je_str (nomark _)) (jss_cons (js_set 5 hN (je_callTy c_listS T.b_list PyProof.Rows.boot_list (ja_cons (je_meth0 T.k_Machine T.m_Machine_words (ok_Machine_words T) (hr.mono (by decide)) (bi_Machine_words T) (let0 nox_def) (je_var 1)) ja_nil)))
    (jss_cons (js_asg (je_ix (je_fld T.k_History T.n_History__turn (je_var 0)) je_int) (jg_sub (E := E0) (je_var 5) (je_ix (je_fld T.k_History T.n_History__turn (je_var 0)) je_int)))
    (jss_one (js_ret (je_tup (ja_cons (je_make T.M_Machine (ok_Machine_init T) (hr.mono (by decide)) T.g_Machine (bi_Machine_init T) (let0 nox_def) (ja_cons (je_fld T.k_History T.n_History__digests (je_var 0)) (ja_cons (je_meth0 T.k_Machine T.m_Machine_registers (ok_Machine_registers T) (hr.mono (by decide)) (bi_Machine_registers T) (let0 nox_def) (je_var 1)) (ja_cons (je_callTy c_tuple T.b_tuple PyProof.Rows.boot_tuple (ja_cons (je_var 5) ja_nil)) ja_nil)))) (ja_cons (je_var 3) ja_nil))))))) jss_nil)
    (jss_cons (js_set 3 hN (je_ix (je_fld T.k_History T.n_History__turn (je_var 0)) je_int))
    (jss_cons (js_asg (je_sl (je_meth0 T.k_Machine T.m_Machine_registers (ok_Machine_registers T) (hr.mono (by decide)) (bi_Machine_registers T) (let0 nox_def) (je_var 1)) jo_none (jo_some je_int)) (jg_tup rfl (jgs_cons (jg_name 6 hN) (jgs_cons (jg_name 7 hN) (jgs_cons (jg_name 8 hN) jgs_nil)))))
    (jss_cons (js_set 9 hN (je_tup (ja_cons (je_var 6) (ja_cons (je_var 7) (ja_cons (je_var 8) (ja_cons (je_tix T.x_MARKS je_str) (ja_cons (je_call (ok_out_of T) (hr.mono (by decide)) T.g_out_of T.F_out_of.kp (bi_out_of T) (let0 nox_def) (ja_cons (je_fld T.k_History T.n_History__digests (je_var 0)) (ja_cons (je_var 3) ja_nil))) (ja_cons (je_callB c_len T.b_len PySem.boot_len (ja_cons (je_var 3) ja_nil)) ja_nil))))))))
    (jss_one (js_ret (je_tup (ja_cons (je_make T.M_Machine (ok_Machine_init T) (hr.mono (by decide)) T.g_Machine (bi_Machine_init T) (let0 nox_def) (ja_cons (je_fld T.k_History T.n_History__digests (je_var 0)) (ja_cons (je_var 9) (ja_cons (je_meth0 T.k_Machine T.m_Machine_words (ok_Machine_words T) (hr.mono (by decide)) (bi_Machine_words T) (let0 nox_def) (je_var 1)) ja_nil)))) (ja_cons (je_var 3) ja_nil)))))))))))))
theorem sc_root_of : FnScope ["digests", "row"] ["digests", "row"] (defScope s_root_of) := ⟨rfl, rfl, rfl, by decide +kernel, rfl, by decide +kernel, by decide +kernel⟩
theorem bi_root_of (T : Tx K mg Cl) : Binds K T.d_root_of ["digests", "row"] [] := T.F_root_of.binds fun _ _ _ _ _ _ us hl => match us, hl with | [_, _], _ => rfl
theorem ok_root_of (T : Tx K mg Cl) : FnOk P w K mg base CX0 4 T.a_root_of T.d_root_of ["digests", "row"] (spM K Cl 2 m_root_of) := by
  refine fn_ok T.F_root_of sc_root_of rfl rfl fun cdv A outer s H E hr => ?_
  have hN := (sc_root_of).nd
  exact (jss_cons (js_set 1 hN (je_callTy c_listS T.b_list PyProof.Rows.boot_list (ja_cons (je_var 1) ja_nil)))
    (jss_cons (js_while 9 PassesOwn.never (jt_cmp o_gt (je_callB c_len T.b_len PySem.boot_len (ja_cons (je_var 1) ja_nil)) je_int (nomark _)) (jss_one (js_set 1 hN (je_call (ok_folded T) (hr.mono (by decide)) T.g_folded T.F_folded.kp (bi_folded T) (let0 nox_def) (ja_cons (je_var 0) (ja_cons (je_var 1) ja_nil))))))
    (jss_one (js_ret (je_ix (je_var 1) je_int)))))
theorem sc_History_init : FnScope ["self", "digests", "words", "k", "turn", "machine", "told", "step", "row", "number"] ["self", "digests", "words", "k", "turn"] (defScope s_History_init) := ⟨rfl, rfl, rfl, by decide +kernel, rfl, by decide +kernel, by decide +kernel⟩
theorem bi_History_init (T : Tx K mg Cl) : Binds K T.d_History_init ["self", "digests", "words", "k", "turn"] [] := T.F_History_init.binds fun _ _ _ _ _ _ us hl => match us, hl with | [_, _, _, _, _], _ => rfl
theorem ok_History_init (T : Tx K mg Cl) : FnOk P w K mg base CX0 9 T.a_History_init T.d_History_init ["self", "digests", "words", "k", "turn"] (spM K Cl 5 m_History_init) := by
  refine fn_ok T.F_History_init sc_History_init rfl rfl fun cdv A outer s H E hr => ?_
  have hN := (sc_History_init).nd
  exact (jss_cons (js_fld T.k_History T.n_History__digests (je_var 0) (je_var 1))
    (jss_cons (js_fld T.k_History T.n_History__turn (je_var 0) (je_var 4))
    (jss_cons (js_fld T.k_History T.n_History__count (je_var 0) (je_op o_shl je_int (je_var 3)))
    (jss_cons (js_fld T.k_History T.n_History__level (je_var 0) (je_op o_fdiv (je_var 3) je_int))
    (jss_cons (js_fld T.k_History T.n_History__block (je_var 0) (je_op o_shl je_int (je_fld T.k_History T.n_History__level (je_var 0))))
    (jss_cons (js_fld T.k_History T.n_History__states (je_var 0) (je_lstS ja_nil))
    (jss_cons (js_fld T.k_History T.n_History__roots (je_var 0) (je_lstS ja_nil))
    (jss_cons (js_fld T.k_History T.n_History__halves (je_var 0) je_dnewT)
    (jss_cons (js_fld T.k_History T.n_History__openings (je_var 0) je_dnewK)
    (jss_cons (js_set 5 hN (je_make T.M_Machine (ok_Machine_init T) (hr.mono (by decide)) T.g_Machine (bi_Machine_init T) (let0 nox_def) (ja_cons (je_var 1) (ja_cons (je_call0 (ok_first_registers T) (hr.mono (by decide)) T.g_first_registers T.F_first_registers.kp (bi_first_registers T) (let0 nox_def)) (ja_cons (je_var 2) ja_nil)))))
    (jss_cons (js_set 6 hN (je_tup ja_nil))
    (jss_cons (js_for PassesOwn.never rfl (ji_rngC T.b_range (ja_cons je_int (ja_cons (je_fld T.k_History T.n_History__count (je_var 0)) (ja_cons (je_fld T.k_History T.n_History__block (je_var 0)) ja_nil)))) (jg_name 7 hN) (jss_cons (js_expr (je_lm PySem.F.slot_list_append PySem.F.type_list_append m_app (je_fld T.k_History T.n_History__states (je_var 0)) (ja_cons (je_tup (ja_cons (je_meth0 T.k_Machine T.m_Machine_registers (ok_Machine_registers T) (hr.mono (by decide)) (bi_Machine_registers T) (let0 nox_def) (je_var 5)) (ja_cons (je_meth0 T.k_Machine T.m_Machine_words (ok_Machine_words T) (hr.mono (by decide)) (bi_Machine_words T) (let0 nox_def) (je_var 5)) ja_nil))) ja_nil)))
    (jss_cons (js_set 8 hN (je_lstS ja_nil))
    (jss_cons (js_for PassesOwn.never rfl (ji_rng2 T.b_range (ja_cons (je_var 7) (ja_cons (je_op o_add (je_var 7) (je_fld T.k_History T.n_History__block (je_var 0))) ja_nil))) (jg_name 9 hN) (jss_cons (js_asg (je_meth T.k_History T.m_History_following (ok_History_following T) (hr.mono (by decide)) (bi_History_following T) (let0 nox_def) (je_var 0) (ja_cons (je_var 5) (ja_cons (je_var 9) (ja_cons (je_var 6) ja_nil)))) (jg_tup rfl (jgs_cons (jg_name 5 hN) (jgs_cons (jg_name 6 hN) jgs_nil))))
    (jss_one (js_expr (je_lm PySem.F.slot_list_append PySem.F.type_list_append m_app (je_var 8) (ja_cons (je_meth0 T.k_Machine T.m_Machine_digest (ok_Machine_digest T) (hr.mono (by decide)) (bi_Machine_digest T) (let0 nox_def) (je_var 5)) ja_nil))))))
    (jss_one (js_expr (je_lm PySem.F.slot_list_append PySem.F.type_list_append m_app (je_fld T.k_History T.n_History__roots (je_var 0)) (ja_cons (je_call (ok_root_of T) (hr.mono (by decide)) T.g_root_of T.F_root_of.kp (bi_root_of T) (let0 nox_def) (ja_cons (je_var 1) (ja_cons (je_var 8) ja_nil))) ja_nil))))))))
    (jss_one (js_fld T.k_History T.n_History__end (je_var 0) (je_tup (ja_cons (je_meth0 T.k_Machine T.m_Machine_digest (ok_Machine_digest T) (hr.mono (by decide)) (bi_Machine_digest T) (let0 nox_def) (je_var 5)) (ja_cons (je_meth0 T.k_Machine T.m_Machine_registers (ok_Machine_registers T) (hr.mono (by decide)) (bi_Machine_registers T) (let0 nox_def) (je_var 5)) (ja_cons (je_meth0 T.k_Machine T.m_Machine_root (ok_Machine_root T) (hr.mono (by decide)) (bi_Machine_root T) (let0 nox_def) (je_var 5)) (ja_cons (je_var 6) ja_nil)))))))))))))))))))
theorem sc_opened : FnScope ["machine", "registers", "parts", "word", "other"] ["machine"] (defScope s_opened) := ⟨rfl, rfl, rfl, by decide +kernel, rfl, by decide +kernel, by decide +kernel⟩
theorem bi_opened (T : Tx K mg Cl) : Binds K T.d_opened ["machine"] [] := T.F_opened.binds fun _ _ _ _ _ _ us hl => match us, hl with | [_], _ => rfl
theorem ok_opened (T : Tx K mg Cl) : FnOk P w K mg base CX0 3 T.a_opened T.d_opened ["machine"] (spM K Cl 1 m_opened) := by
  refine fn_ok T.F_opened sc_opened rfl rfl fun cdv A outer s H E hr => ?_
  have hN := (sc_opened).nd
  exact (jss_cons (js_set 1 hN (je_meth0 T.k_Machine T.m_Machine_registers (ok_Machine_registers T) (hr.mono (by decide)) (bi_Machine_registers T) (let0 nox_def) (je_var 0)))
    (jss_cons (js_set 2 hN (je_tup ja_nil))
    (jss_cons (js_if (jt_cmp (o_eq (room65 hr)) (je_ix (je_var 1) je_int) je_int (nomark _)) (jss_cons (js_set 3 hN (je_meth T.k_Machine T.m_Machine_word (ok_Machine_word T) (hr.mono (by decide)) (bi_Machine_word T) (let0 nox_def) (je_var 0) (ja_cons (je_ix (je_var 1) je_int) ja_nil)))
    (jss_cons (js_set 2 hN (je_tup (ja_cons (je_tup (ja_cons (je_var 3) (ja_cons (je_meth T.k_Machine T.m_Machine_path (ok_Machine_path T) (hr.mono (by decide)) (bi_Machine_path T) (let0 nox_def) (je_var 0) (ja_cons (je_ix (je_var 1) je_int) ja_nil)) ja_nil))) ja_nil)))
    (jss_cons (js_set 4 hN (je_call (ok_data_of T) (hr.mono (by decide)) T.g_data_of T.F_data_of.kp (bi_data_of T) (let0 nox_def) (ja_cons (je_var 1) (ja_cons (je_var 3) ja_nil))))
    (jss_one (js_if (jt_cmp o_notN (je_var 4) je_non (nomark _)) (jss_one (js_set 2 hN (je_op o_add (je_var 2) (je_tup (ja_cons (je_tup (ja_cons (je_meth T.k_Machine T.m_Machine_word (ok_Machine_word T) (hr.mono (by decide)) (bi_Machine_word T) (let0 nox_def) (je_var 0) (ja_cons (je_ix (je_var 4) je_int) ja_nil)) (ja_cons (je_meth T.k_Machine T.m_Machine_path (ok_Machine_path T) (hr.mono (by decide)) (bi_Machine_path T) (let0 nox_def) (je_var 0) (ja_cons (je_ix (je_var 4) je_int) ja_nil)) ja_nil))) ja_nil))))) jss_nil))))) jss_nil)
    (jss_one (js_ret (je_tup (ja_cons (je_var 1) (ja_cons (je_meth0 T.k_Machine T.m_Machine_root (ok_Machine_root T) (hr.mono (by decide)) (bi_Machine_root T) (let0 nox_def) (je_var 0)) (ja_cons (je_var 2) ja_nil)))))))))
theorem sc_L_run : FnScope ["_law_digests", "_law_words_here", "_law_count", "_law_turn", "_law_machine", "_law_told", "_law_row", "_law_openings", "_law_step", "_law_known", "_law_registers"] ["_law_digests", "_law_words_here", "_law_count", "_law_turn"] (defScope s_L_run) := ⟨rfl, rfl, rfl, by decide +kernel, rfl, by decide +kernel, by decide +kernel⟩
theorem bi_L_run (T : Tx K mg Cl) : Binds K T.d_L_run ["_law_digests", "_law_words_here", "_law_count", "_law_turn"] [] := T.F_L_run.binds fun _ _ _ _ _ _ us hl => match us, hl with | [_, _, _, _], _ => rfl
theorem ok_L_run (T : Tx K mg Cl) : FnOk P w K mg base CX0 8 T.a_L_run T.d_L_run ["_law_digests", "_law_words_here", "_law_count", "_law_turn"] (spM K Cl 4 m_L_run) := by
  refine fn_ok T.F_L_run sc_L_run rfl rfl fun cdv A outer s H E hr => ?_
  have hN := (sc_L_run).nd
  exact (jss_cons (js_set 4 hN (je_make T.M_Machine (ok_Machine_init T) (hr.mono (by decide)) T.g_Machine (bi_Machine_init T) (let0 nox_def) (ja_cons (je_var 0) (ja_cons (je_call0 (ok_first_registers T) (hr.mono (by decide)) T.g_first_registers T.F_first_registers.kp (bi_first_registers T) (let0 nox_def)) (ja_cons (je_var 1) ja_nil)))))
    (jss_cons (js_set 5 hN (je_tup ja_nil))
    (jss_cons (js_set 6 hN (je_lstS (ja_cons (je_meth0 T.k_Machine T.m_Machine_digest (ok_Machine_digest T) (hr.mono (by decide)) (bi_Machine_digest T) (let0 nox_def) (je_var 4)) ja_nil)))
    (jss_cons (js_set 7 hN (je_lstS ja_nil))
    (jss_cons (js_for PassesOwn.never rfl (ji_rng2 T.b_range (ja_cons je_int (ja_cons (je_op o_add (je_var 2) je_int) ja_nil))) (jg_name 8 hN) (jss_cons (js_expr (je_lm PySem.F.slot_list_append PySem.F.type_list_append m_app (je_var 7) (ja_cons (je_call (ok_opened T) (hr.mono (by decide)) T.g_opened T.F_opened.kp (bi_opened T) (let0 nox_def) (ja_cons (je_var 4) ja_nil)) ja_nil)))
    (jss_cons (js_set 9 hN (je_callB c_len T.b_len PySem.boot_len (ja_cons (je_meth0 T.k_Machine T.m_Machine_told (ok_Machine_told T) (hr.mono (by decide)) (bi_Machine_told T) (let0 nox_def) (je_var 4)) ja_nil)))
    (jss_cons (js_expr (je_meth0 T.k_Machine T.m_Machine_step (ok_Machine_step T) (hr.mono (by decide)) (bi_Machine_step T) (let0 nox_def) (je_var 4)))
    (jss_cons (js_set 5 hN (je_op o_add (je_var 5) (je_sl (je_meth0 T.k_Machine T.m_Machine_told (ok_Machine_told T) (hr.mono (by decide)) (bi_Machine_told T) (let0 nox_def) (je_var 4)) (jo_some (je_var 9)) jo_none)))
    (jss_cons (js_if (jt_w (jw_and (jt_cmp (o_eq (room65 hr)) (je_var 8) (je_ix (je_var 3) je_int) (nomark _)) (jw_and1 (jt_cmp (o_eq (room65 hr)) (je_ix (je_var 3) je_int) je_str (nomark _))))) (jss_cons (js_set 1 hN (je_callTy c_listS T.b_list PyProof.Rows.boot_list (ja_cons (je_meth0 T.k_Machine T.m_Machine_words (ok_Machine_words T) (hr.mono (by decide)) (bi_Machine_words T) (let0 nox_def) (je_var 4)) ja_nil)))
    (jss_cons (js_asg (je_ix (je_var 3) je_int) (jg_sub (E := E0) (je_var 1) (je_ix (je_var 3) je_int)))
    (jss_one (js_set 4 hN (je_make T.M_Machine (ok_Machine_init T) (hr.mono (by decide)) T.g_Machine (bi_Machine_init T) (let0 nox_def) (ja_cons (je_var 0) (ja_cons (je_meth0 T.k_Machine T.m_Machine_registers (ok_Machine_registers T) (hr.mono (by decide)) (bi_Machine_registers T) (let0 nox_def) (je_var 4)) (ja_cons (je_callTy c_tuple T.b_tuple PyProof.Rows.boot_tuple (ja_cons (je_var 1) ja_nil)) ja_nil)))))))) jss_nil)
    (jss_cons (js_if (jt_w (jw_and (jt_cmp (o_eq (room65 hr)) (je_var 8) (je_ix (je_var 3) je_int) (nomark _)) (jw_and1 (jt_cmp (o_eq (room65 hr)) (je_ix (je_var 3) je_int) je_str (nomark _))))) (jss_cons (js_set 5 hN (je_ix (je_var 3) je_int))
    (jss_cons (js_set 10 hN (je_op o_add (je_sl (je_meth0 T.k_Machine T.m_Machine_registers (ok_Machine_registers T) (hr.mono (by decide)) (bi_Machine_registers T) (let0 nox_def) (je_var 4)) jo_none (jo_some je_int)) (je_tup (ja_cons je_int (ja_cons (je_call (ok_out_of T) (hr.mono (by decide)) T.g_out_of T.F_out_of.kp (bi_out_of T) (let0 nox_def) (ja_cons (je_var 0) (ja_cons (je_var 5) ja_nil))) (ja_cons (je_callB c_len T.b_len PySem.boot_len (ja_cons (je_var 5) ja_nil)) ja_nil))))))
    (jss_one (js_set 4 hN (je_make T.M_Machine (ok_Machine_init T) (hr.mono (by decide)) T.g_Machine (bi_Machine_init T) (let0 nox_def) (ja_cons (je_var 0) (ja_cons (je_var 10) (ja_cons (je_meth0 T.k_Machine T.m_Machine_words (ok_Machine_words T) (hr.mono (by decide)) (bi_Machine_words T) (let0 nox_def) (je_var 4)) ja_nil)))))))) jss_nil)
    (jss_one (js_expr (je_lm PySem.F.slot_list_append PySem.F.type_list_append m_app (je_var 6) (ja_cons (je_meth0 T.k_Machine T.m_Machine_digest (ok_Machine_digest T) (hr.mono (by decide)) (bi_Machine_digest T) (let0 nox_def) (je_var 4)) ja_nil)))))))))))
    (jss_one (js_ret (je_tup (ja_cons (je_var 6) (ja_cons (je_var 7) (ja_cons (je_var 4) (ja_cons (je_var 5) ja_nil))))))))))))
theorem sc_History_machine : FnScope ["self", "steps", "registers", "words", "machine", "number", "_"] ["self", "steps"] (defScope s_History_machine) := ⟨rfl, rfl, rfl, by decide +kernel, rfl, by decide +kernel, by decide +kernel⟩
theorem bi_History_machine (T : Tx K mg Cl) : Binds K T.d_History_machine ["self", "steps"] [] := T.F_History_machine.binds fun _ _ _ _ _ _ us hl => match us, hl with | [_, _], _ => rfl
theorem ok_History_machine (T : Tx K mg Cl) : FnOk P w K mg base CX0 9 T.a_History_machine T.d_History_machine ["self", "steps"] (spM K Cl 2 m_History_machine) := by
  refine fn_ok T.F_History_machine sc_History_machine rfl rfl fun cdv A outer s H E hr => ?_
  have hN := (sc_History_machine).nd
  exact (jss_cons (js_asg (je_ix (je_fld T.k_History T.n_History__states (je_var 0)) (je_op o_fdiv (je_var 1) (je_fld T.k_History T.n_History__block (je_var 0)))) (jg_tup rfl (jgs_cons (jg_name 2 hN) (jgs_cons (jg_name 3 hN) jgs_nil))))
    (jss_cons (js_set 4 hN (je_make T.M_Machine (ok_Machine_init T) (hr.mono (by decide)) T.g_Machine (bi_Machine_init T) (let0 nox_def) (ja_cons (je_fld T.k_History T.n_History__digests (je_var 0)) (ja_cons (je_var 2) (ja_cons (je_var 3) ja_nil)))))
    (jss_cons (js_for PassesOwn.never rfl (ji_rng2 T.b_range (ja_cons (je_op o_sub (je_var 1) (je_op o_mod (je_var 1) (je_fld T.k_History T.n_History__block (je_var 0)))) (ja_cons (je_var 1) ja_nil))) (jg_name 5 hN) (jss_one (js_asg (je_meth T.k_History T.m_History_following (ok_History_following T) (hr.mono (by decide)) (bi_History_following T) (let0 nox_def) (je_var 0) (ja_cons (je_var 4) (ja_cons (je_var 5) (ja_cons (je_tup ja_nil) ja_nil)))) (jg_tup rfl (jgs_cons (jg_name 4 hN) (jgs_cons (jg_name 6 hN) jgs_nil))))))
    (jss_one (js_ret (je_var 4))))))
theorem sc_History_digest : FnScope ["self", "steps"] ["self", "steps"] (defScope s_History_digest) := ⟨rfl, rfl, rfl, by decide +kernel, rfl, by decide +kernel, by decide +kernel⟩
theorem bi_History_digest (T : Tx K mg Cl) : Binds K T.d_History_digest ["self", "steps"] [] := T.F_History_digest.binds fun _ _ _ _ _ _ us hl => match us, hl with | [_, _], _ => rfl
theorem ok_History_digest (T : Tx K mg Cl) : FnOk P w K mg base CX0 10 T.a_History_digest T.d_History_digest ["self", "steps"] (spM K Cl 2 m_History_digest) := by
  refine fn_ok T.F_History_digest sc_History_digest rfl rfl fun cdv A outer s H E hr => ?_
  have hN := (sc_History_digest).nd
  exact (jss_cons (js_if (jt_cmp (o_eq (room65 hr)) (je_var 1) (je_fld T.k_History T.n_History__count (je_var 0)) (nomark _)) (jss_one (js_ret (je_ix (je_fld T.k_History T.n_History__end (je_var 0)) je_int))) jss_nil)
    (jss_one (js_ret (je_meth0 T.k_Machine T.m_Machine_digest (ok_Machine_digest T) (hr.mono (by decide)) (bi_Machine_digest T) (let0 nox_def) (je_meth T.k_History T.m_History_machine (ok_History_machine T) (hr.mono (by decide)) (bi_History_machine T) (let0 nox_def) (je_var 0) (ja_cons (je_var 1) ja_nil))))))
theorem sc_History_opening : FnScope ["self", "steps"] ["self", "steps"] (defScope s_History_opening) := ⟨rfl, rfl, rfl, by decide +kernel, rfl, by decide +kernel, by decide +kernel⟩
theorem bi_History_opening (T : Tx K mg Cl) : Binds K T.d_History_opening ["self", "steps"] [] := T.F_History_opening.binds fun _ _ _ _ _ _ us hl => match us, hl with | [_, _], _ => rfl
theorem ok_History_opening (T : Tx K mg Cl) : FnOk P w K mg base CX0 10 T.a_History_opening T.d_History_opening ["self", "steps"] (spM K Cl 2 m_History_opening) := by
  refine fn_ok T.F_History_opening sc_History_opening rfl rfl fun cdv A outer s H E hr => ?_
  have hN := (sc_History_opening).nd
  exact (jss_cons (js_if (jt_dnotin (room1 hr) (je_var 1) (je_fld T.k_History T.n_History__openings (je_var 0))) (jss_one (js_dput (room1 hr) (je_fld T.k_History T.n_History__openings (je_var 0)) (je_var 1) (je_call (ok_opened T) (hr.mono (by decide)) T.g_opened T.F_opened.kp (bi_opened T) (let0 nox_def) (ja_cons (je_meth T.k_History T.m_History_machine (ok_History_machine T) (hr.mono (by decide)) (bi_History_machine T) (let0 nox_def) (je_var 0) (ja_cons (je_var 1) ja_nil)) ja_nil)))) jss_nil)
    (jss_one (js_ret (je_dget (room1 hr) (je_fld T.k_History T.n_History__openings (je_var 0)) (je_var 1)))))
theorem sc_History_row : FnScope ["self", "level", "index", "first", "machine", "row", "number", "_"] ["self", "level", "index"] (defScope s_History_row) := ⟨rfl, rfl, rfl, by decide +kernel, rfl, by decide +kernel, by decide +kernel⟩
theorem bi_History_row (T : Tx K mg Cl) : Binds K T.d_History_row ["self", "level", "index"] [] := T.F_History_row.binds fun _ _ _ _ _ _ us hl => match us, hl with | [_, _, _], _ => rfl
theorem ok_History_row (T : Tx K mg Cl) : FnOk P w K mg base CX0 10 T.a_History_row T.d_History_row ["self", "level", "index"] (spM K Cl 3 m_History_row) := by
  refine fn_ok T.F_History_row sc_History_row rfl rfl fun cdv A outer s H E hr => ?_
  have hN := (sc_History_row).nd
  exact (jss_cons (js_set 3 hN (je_op o_shl (je_var 2) (je_var 1)))
    (jss_cons (js_set 4 hN (je_meth T.k_History T.m_History_machine (ok_History_machine T) (hr.mono (by decide)) (bi_History_machine T) (let0 nox_def) (je_var 0) (ja_cons (je_var 3) ja_nil)))
    (jss_cons (js_set 5 hN (je_lstS ja_nil))
    (jss_cons (js_for PassesOwn.never rfl (ji_rng2 T.b_range (ja_cons (je_var 3) (ja_cons (je_op o_add (je_var 3) (je_op o_shl je_int (je_var 1))) ja_nil))) (jg_name 6 hN) (jss_cons (js_asg (je_meth T.k_History T.m_History_following (ok_History_following T) (hr.mono (by decide)) (bi_History_following T) (let0 nox_def) (je_var 0) (ja_cons (je_var 4) (ja_cons (je_var 6) (ja_cons (je_tup ja_nil) ja_nil)))) (jg_tup rfl (jgs_cons (jg_name 4 hN) (jgs_cons (jg_name 7 hN) jgs_nil))))
    (jss_one (js_expr (je_lm PySem.F.slot_list_append PySem.F.type_list_append m_app (je_var 5) (ja_cons (je_meth0 T.k_Machine T.m_Machine_digest (ok_Machine_digest T) (hr.mono (by decide)) (bi_Machine_digest T) (let0 nox_def) (je_var 4)) ja_nil))))))
    (jss_one (js_ret (je_var 5)))))))
theorem sc_History_root : FnScope ["self", "level", "index", "size"] ["self", "level", "index"] (defScope s_History_root) := ⟨rfl, rfl, rfl, by decide +kernel, rfl, by decide +kernel, by decide +kernel⟩
theorem bi_History_root (T : Tx K mg Cl) : Binds K T.d_History_root ["self", "level", "index"] [] := T.F_History_root.binds fun _ _ _ _ _ _ us hl => match us, hl with | [_, _, _], _ => rfl
theorem ok_History_root (T : Tx K mg Cl) : FnOk P w K mg base CX0 11 T.a_History_root T.d_History_root ["self", "level", "index"] (spM K Cl 3 m_History_root) := by
  refine fn_ok T.F_History_root sc_History_root rfl rfl fun cdv A outer s H E hr => ?_
  have hN := (sc_History_root).nd
  exact (jss_cons (js_if (jt_cmp o_lt (je_var 1) (je_fld T.k_History T.n_History__level (je_var 0)) (nomark _)) (jss_one (js_ret (je_call (ok_root_of T) (hr.mono (by decide)) T.g_root_of T.F_root_of.kp (bi_root_of T) (let0 nox_def) (ja_cons (je_fld T.k_History T.n_History__digests (je_var 0)) (ja_cons (je_meth T.k_History T.m_History_row (ok_History_row T) (hr.mono (by decide)) (bi_History_row T) (let0 nox_def) (je_var 0) (ja_cons (je_var 1) (ja_cons (je_var 2) ja_nil))) ja_nil))))) jss_nil)
    (jss_cons (js_set 3 hN (je_op o_shl je_int (je_op o_sub (je_var 1) (je_fld T.k_History T.n_History__level (je_var 0)))))
    (jss_one (js_ret (je_call (ok_root_of T) (hr.mono (by decide)) T.g_root_of T.F_root_of.kp (bi_root_of T) (let0 nox_def) (ja_cons (je_fld T.k_History T.n_History__digests (je_var 0)) (ja_cons (je_sl (je_fld T.k_History T.n_History__roots (je_var 0)) (jo_some (je_op o_mul (je_var 2) (je_var 3))) (jo_some (je_op o_mul (je_op o_add (je_var 2) je_int) (je_var 3)))) ja_nil)))))))
theorem sc_path_of : FnScope ["digests", "row", "place", "path"] ["digests", "row", "place"] (defScope s_path_of) := ⟨rfl, rfl, rfl, by decide +kernel, rfl, by decide +kernel, by decide +kernel⟩
theorem bi_path_of (T : Tx K mg Cl) : Binds K T.d_path_of ["digests", "row", "place"] [] := T.F_path_of.binds fun _ _ _ _ _ _ us hl => match us, hl with | [_, _, _], _ => rfl
theorem ok_path_of (T : Tx K mg Cl) : FnOk P w K mg base CX0 4 T.a_path_of T.d_path_of ["digests", "row", "place"] (spM K Cl 3 m_path_of) := by
  refine fn_ok T.F_path_of sc_path_of rfl rfl fun cdv A outer s H E hr => ?_
  have hN := (sc_path_of).nd
  exact (jss_cons (js_set 1 hN (je_callTy c_listS T.b_list PyProof.Rows.boot_list (ja_cons (je_var 1) ja_nil)))
    (jss_cons (js_set 3 hN (je_lstS ja_nil))
    (jss_cons (js_while 9 PassesOwn.never (jt_cmp o_gt (je_callB c_len T.b_len PySem.boot_len (ja_cons (je_var 1) ja_nil)) je_int (nomark _)) (jss_cons (js_expr (je_lm PySem.F.slot_list_append PySem.F.type_list_append m_app (je_var 3) (ja_cons (je_ix (je_var 1) (je_op o_xor (je_var 2) je_int)) ja_nil)))
    (jss_cons (js_set 1 hN (je_call (ok_folded T) (hr.mono (by decide)) T.g_folded T.F_folded.kp (bi_folded T) (let0 nox_def) (ja_cons (je_var 0) (ja_cons (je_var 1) ja_nil))))
    (jss_one (js_set 2 hN (je_op o_fdiv (je_var 2) je_int))))))
    (jss_one (js_ret (je_callTy c_tuple T.b_tuple PyProof.Rows.boot_tuple (ja_cons (je_var 3) ja_nil)))))))
theorem sc_History_last_path : FnScope ["self", "level", "index", "row", "size", "roots"] ["self", "level", "index"] (defScope s_History_last_path) := ⟨rfl, rfl, rfl, by decide +kernel, rfl, by decide +kernel, by decide +kernel⟩
theorem bi_History_last_path (T : Tx K mg Cl) : Binds K T.d_History_last_path ["self", "level", "index"] [] := T.F_History_last_path.binds fun _ _ _ _ _ _ us hl => match us, hl with | [_, _, _], _ => rfl
theorem ok_History_last_path (T : Tx K mg Cl) : FnOk P w K mg base CX0 11 T.a_History_last_path T.d_History_last_path ["self", "level", "index"] (spM K Cl 3 m_History_last_path) := by
  refine fn_ok T.F_History_last_path sc_History_last_path rfl rfl fun cdv A outer s H E hr => ?_
  have hN := (sc_History_last_path).nd
  exact (jss_cons (js_if (jt_cmp o_le (je_var 1) (je_fld T.k_History T.n_History__level (je_var 0)) (nomark _)) (jss_cons (js_set 3 hN (je_meth T.k_History T.m_History_row (ok_History_row T) (hr.mono (by decide)) (bi_History_row T) (let0 nox_def) (je_var 0) (ja_cons (je_var 1) (ja_cons (je_var 2) ja_nil))))
    (jss_one (js_ret (je_call (ok_path_of T) (hr.mono (by decide)) T.g_path_of T.F_path_of.kp (bi_path_of T) (let0 nox_def) (ja_cons (je_fld T.k_History T.n_History__digests (je_var 0)) (ja_cons (je_var 3) (ja_cons (je_op o_sub (je_callB c_len T.b_len PySem.boot_len (ja_cons (je_var 3) ja_nil)) je_int) ja_nil))))))) jss_nil)
    (jss_cons (js_set 4 hN (je_op o_shl je_int (je_op o_sub (je_var 1) (je_fld T.k_History T.n_History__level (je_var 0)))))
    (jss_cons (js_set 5 hN (je_sl (je_fld T.k_History T.n_History__roots (je_var 0)) (jo_some (je_op o_mul (je_var 2) (je_var 4))) (jo_some (je_op o_mul (je_op o_add (je_var 2) je_int) (je_var 4)))))
    (jss_cons (js_set 3 hN (je_meth T.k_History T.m_History_row (ok_History_row T) (hr.mono (by decide)) (bi_History_row T) (let0 nox_def) (je_var 0) (ja_cons (je_fld T.k_History T.n_History__level (je_var 0)) (ja_cons (je_op o_sub (je_op o_mul (je_op o_add (je_var 2) je_int) (je_var 4)) je_int) ja_nil))))
    (jss_one (js_ret (je_op o_add (je_call (ok_path_of T) (hr.mono (by decide)) T.g_path_of T.F_path_of.kp (bi_path_of T) (let0 nox_def) (ja_cons (je_fld T.k_History T.n_History__digests (je_var 0)) (ja_cons (je_var 3) (ja_cons (je_op o_sub (je_callB c_len T.b_len PySem.boot_len (ja_cons (je_var 3) ja_nil)) je_int) ja_nil)))) (je_call (ok_path_of T) (hr.mono (by decide)) T.g_path_of T.F_path_of.kp (bi_path_of T) (let0 nox_def) (ja_cons (je_fld T.k_History T.n_History__digests (je_var 0)) (ja_cons (je_var 5) (ja_cons (je_op o_sub (je_var 4) je_int) ja_nil)))))))))))
theorem sc_History_halves : FnScope ["self", "level", "index", "left", "right", "last"] ["self", "level", "index"] (defScope s_History_halves) := ⟨rfl, rfl, rfl, by decide +kernel, rfl, by decide +kernel, by decide +kernel⟩
theorem bi_History_halves (T : Tx K mg Cl) : Binds K T.d_History_halves ["self", "level", "index"] [] := T.F_History_halves.binds fun _ _ _ _ _ _ us hl => match us, hl with | [_, _, _], _ => rfl
theorem ok_History_halves (T : Tx K mg Cl) : FnOk P w K mg base CX0 12 T.a_History_halves T.d_History_halves ["self", "level", "index"] (spM K Cl 3 m_History_halves) := by
  refine fn_ok T.F_History_halves sc_History_halves rfl rfl fun cdv A outer s H E hr => ?_
  have hN := (sc_History_halves).nd
  exact (jss_cons (js_if (jt_tnotin (room1 hr) (ja_cons (je_var 1) (ja_cons (je_var 2) ja_nil)) (je_fld T.k_History T.n_History__halves (je_var 0))) (jss_cons (js_set 3 hN (je_meth T.k_History T.m_History_root (ok_History_root T) (hr.mono (by decide)) (bi_History_root T) (let0 nox_def) (je_var 0) (ja_cons (je_op o_sub (je_var 1) je_int) (ja_cons (je_op o_mul je_int (je_var 2)) ja_nil))))
    (jss_cons (js_set 4 hN (je_meth T.k_History T.m_History_root (ok_History_root T) (hr.mono (by decide)) (bi_History_root T) (let0 nox_def) (je_var 0) (ja_cons (je_op o_sub (je_var 1) je_int) (ja_cons (je_op o_add (je_op o_mul je_int (je_var 2)) je_int) ja_nil))))
    (jss_cons (js_set 5 hN (je_meth T.k_History T.m_History_digest (ok_History_digest T) (hr.mono (by decide)) (bi_History_digest T) (let0 nox_def) (je_var 0) (ja_cons (je_op o_shl (je_op o_add (je_op o_mul je_int (je_var 2)) je_int) (je_op o_sub (je_var 1) je_int)) ja_nil)))
    (jss_one (js_tput (room1 hr) (je_fld T.k_History T.n_History__halves (je_var 0)) (ja_cons (je_var 1) (ja_cons (je_var 2) ja_nil)) (je_tup (ja_cons (je_var 3) (ja_cons (je_var 4) (ja_cons (je_var 5) (ja_cons (je_meth T.k_History T.m_History_last_path (ok_History_last_path T) (hr.mono (by decide)) (bi_History_last_path T) (let0 nox_def) (je_var 0) (ja_cons (je_op o_sub (je_var 1) je_int) (ja_cons (je_op o_mul je_int (je_var 2)) ja_nil))) ja_nil)))))))))) jss_nil)
    (jss_one (js_ret (je_tget (room1 hr) (je_fld T.k_History T.n_History__halves (je_var 0)) (ja_cons (je_var 1) (ja_cons (je_var 2) ja_nil))))))
theorem sc_History_end : FnScope ["self", "level", "last", "registers", "memory", "told"] ["self"] (defScope s_History_end) := ⟨rfl, rfl, rfl, by decide +kernel, rfl, by decide +kernel, by decide +kernel⟩
theorem bi_History_end (T : Tx K mg Cl) : Binds K T.d_History_end ["self"] [] := T.F_History_end.binds fun _ _ _ _ _ _ us hl => match us, hl with | [_], _ => rfl
theorem ok_History_end (T : Tx K mg Cl) : FnOk P w K mg base CX0 12 T.a_History_end T.d_History_end ["self"] (spM K Cl 1 m_History_end) := by
  refine fn_ok T.F_History_end sc_History_end rfl rfl fun cdv A outer s H E hr => ?_
  have hN := (sc_History_end).nd
  exact (jss_cons (js_set 1 hN (je_bits (je_op o_sub (je_fld T.k_History T.n_History__count (je_var 0)) je_int)))
    (jss_cons (js_asg (je_fld T.k_History T.n_History__end (je_var 0)) (jg_tup rfl (jgs_cons (jg_name 2 hN) (jgs_cons (jg_name 3 hN) (jgs_cons (jg_name 4 hN) (jgs_cons (jg_name 5 hN) jgs_nil))))))
    (jss_one (js_ret (je_tup (ja_cons (je_var 2) (ja_cons (je_meth T.k_History T.m_History_last_path (ok_History_last_path T) (hr.mono (by decide)) (bi_History_last_path T) (let0 nox_def) (je_var 0) (ja_cons (je_var 1) (ja_cons je_int ja_nil))) (ja_cons (je_var 3) (ja_cons (je_var 4) (ja_cons (je_var 5) ja_nil))))))))))
theorem sc_must : FnScope ["condition"] ["condition"] (defScope s_must) := ⟨rfl, rfl, rfl, by decide +kernel, rfl, by decide +kernel, by decide +kernel⟩
theorem bi_must (T : Tx K mg Cl) : Binds K T.d_must ["condition"] [] := T.F_must.binds fun _ _ _ _ _ _ us hl => match us, hl with | [_], _ => rfl
theorem ok_must (T : Tx K mg Cl) : FnOk P w K mg base (L2.CX P w) 1 T.a_must T.d_must ["condition"] (spM K Cl 1 m_must) := by
  refine fn_okX T.F_must sc_must rfl rfl fun cdv A outer s H E hr => ?_
  have hN := (sc_must).nd
  exact (jss_one (js_if (jt_not (jt_tru (je_var 0))) (jss_one (js_raise0 T.x_BadOpening (takes_of rfl rfl rfl rfl))) jss_nil))
theorem sc_is_integer : FnScope ["value", "least", "greatest"] ["value", "least", "greatest"] (defScope s_is_integer) := ⟨rfl, rfl, rfl, by decide +kernel, rfl, by decide +kernel, by decide +kernel⟩
theorem bi_is_integer (T : Tx K mg Cl) : Binds K T.d_is_integer ["value", "least", "greatest"] [] := T.F_is_integer.binds fun _ _ _ _ _ _ us hl => match us, hl with | [_, _, _], _ => rfl
theorem ok_is_integer (T : Tx K mg Cl) : FnOk P w K mg base CX0 1 T.a_is_integer T.d_is_integer ["value", "least", "greatest"] (spM K Cl 3 m_is_integer) := by
  refine fn_ok T.F_is_integer sc_is_integer rfl rfl fun cdv A outer s H E hr => ?_
  have hN := (sc_is_integer).nd
  exact (jss_one (js_ret (je_and (je_isi T.b_isinstance T.b_int PyProof.Rows.boot_int (je_var 0)) (je_and (je_not (je_isi T.b_isinstance T.b_bool PyProof.Rows.boot_bool (je_var 0))) (je_one (je_chain o_le o_le (je_var 1) (je_var 0) (je_var 2)))))))
theorem sc_is_word : FnScope ["value"] ["value"] (defScope s_is_word) := ⟨rfl, rfl, rfl, by decide +kernel, rfl, by decide +kernel, by decide +kernel⟩
theorem bi_is_word (T : Tx K mg Cl) : Binds K T.d_is_word ["value"] [] := T.F_is_word.binds fun _ _ _ _ _ _ us hl => match us, hl with | [_], _ => rfl
theorem ok_is_word (T : Tx K mg Cl) : FnOk P w K mg base CX0 2 T.a_is_word T.d_is_word ["value"] (spM K Cl 1 m_is_word) := by
  refine fn_ok T.F_is_word sc_is_word rfl rfl fun cdv A outer s H E hr => ?_
  have hN := (sc_is_word).nd
  exact (jss_one (js_ret (je_call (ok_is_integer T) (hr.mono (by decide)) T.g_is_integer T.F_is_integer.kp (bi_is_integer T) (let0 nox_def) (ja_cons (je_var 0) (ja_cons je_int (ja_cons (je_glob T.c_MOST_WORD) ja_nil))))))
theorem sc_Digests_is_digest : FnScope ["self", "value"] ["self", "value"] (defScope s_Digests_is_digest) := ⟨rfl, rfl, rfl, by decide +kernel, rfl, by decide +kernel, by decide +kernel⟩
theorem bi_Digests_is_digest (T : Tx K mg Cl) : Binds K T.d_Digests_is_digest ["self", "value"] [] := T.F_Digests_is_digest.binds fun _ _ _ _ _ _ us hl => match us, hl with | [_, _], _ => rfl
theorem ok_Digests_is_digest (T : Tx K mg Cl) : FnOk P w K mg base CX0 2 T.a_Digests_is_digest T.d_Digests_is_digest ["self", "value"] (spM K Cl 2 m_Digests_is_digest) := by
  refine fn_ok T.F_Digests_is_digest sc_Digests_is_digest rfl rfl fun cdv A outer s H E hr => ?_
  have hN := (sc_Digests_is_digest).nd
  exact (jss_one (js_ret (je_call (ok_is_integer T) (hr.mono (by decide)) T.g_is_integer T.F_is_integer.kp (bi_is_integer T) (let0 nox_def) (ja_cons (je_var 1) (ja_cons je_int (ja_cons (je_op o_sub (je_fld T.k_Digests T.n_Digests__modulus (je_var 0)) je_int) ja_nil))))))
theorem sc_are_registers : FnScope ["digests", "value", "pc", "acc", "x", "mark", "out", "count"] ["digests", "value"] (defScope s_are_registers) := ⟨rfl, rfl, rfl, by decide +kernel, rfl, by decide +kernel, by decide +kernel⟩
theorem bi_are_registers (T : Tx K mg Cl) : Binds K T.d_are_registers ["digests", "value"] [] := T.F_are_registers.binds fun _ _ _ _ _ _ us hl => match us, hl with | [_, _], _ => rfl
theorem ok_are_registers (T : Tx K mg Cl) : FnOk P w K mg base CX0 3 T.a_are_registers T.d_are_registers ["digests", "value"] (spM K Cl 2 m_are_registers) := by
  refine fn_ok T.F_are_registers sc_are_registers rfl rfl fun cdv A outer s H E hr => ?_
  have hN := (sc_are_registers).nd
  exact (jss_cons (js_if (jt_w (jw_or (jt_not (jt_tru (je_isi T.b_isinstance T.b_tuple PyProof.Rows.boot_tuple (je_var 1)))) (jw_or1 (jt_cmp (o_ne (room65 hr)) (je_callB c_len T.b_len PySem.boot_len (ja_cons (je_var 1) ja_nil)) je_int (nomark _))))) (jss_one (js_ret je_bl)) jss_nil)
    (jss_cons (js_asg (je_var 1) (jg_tup rfl (jgs_cons (jg_name 2 hN) (jgs_cons (jg_name 3 hN) (jgs_cons (jg_name 4 hN) (jgs_cons (jg_name 5 hN) (jgs_cons (jg_name 6 hN) (jgs_cons (jg_name 7 hN) jgs_nil))))))))
    (jss_cons (js_if (jt_w (jw_or (jt_not (jt_tru (je_call (ok_is_integer T) (hr.mono (by decide)) T.g_is_integer T.F_is_integer.kp (bi_is_integer T) (let0 nox_def) (ja_cons (je_var 2) (ja_cons je_int (ja_cons (je_op o_sub (je_glob T.c_PLACES_machine) je_int) ja_nil)))))) (jw_or (jt_not (jt_tru (je_call (ok_is_word T) (hr.mono (by decide)) T.g_is_word T.F_is_word.kp (bi_is_word T) (let0 nox_def) (ja_cons (je_var 3) ja_nil)))) (jw_or1 (jt_not (jt_tru (je_call (ok_is_word T) (hr.mono (by decide)) T.g_is_word T.F_is_word.kp (bi_is_word T) (let0 nox_def) (ja_cons (je_var 4) ja_nil)))))))) (jss_one (js_ret je_bl)) jss_nil)
    (jss_one (js_ret (je_and (je_call (ok_is_integer T) (hr.mono (by decide)) T.g_is_integer T.F_is_integer.kp (bi_is_integer T) (let0 nox_def) (ja_cons (je_var 5) (ja_cons je_int (ja_cons (je_op o_sub (je_callB c_len T.b_len PySem.boot_len (ja_cons (je_glob T.c_MARKS) ja_nil)) je_int) ja_nil)))) (je_and (je_meth T.k_Digests T.m_Digests_is_digest (ok_Digests_is_digest T) (hr.mono (by decide)) (bi_Digests_is_digest T) (let0 nox_def) (je_var 0) (ja_cons (je_var 6) ja_nil)) (je_one (je_call (ok_is_integer T) (hr.mono (by decide)) T.g_is_integer T.F_is_integer.kp (bi_is_integer T) (let0 nox_def) (ja_cons (je_var 7) (ja_cons je_int (ja_cons (je_glob T.c_MOST_TOLD) ja_nil))))))))))))
theorem sc_is_part : FnScope ["digests", "value", "item"] ["digests", "value"] (defScope s_is_part) := ⟨rfl, rfl, rfl, by decide +kernel, rfl, by decide +kernel, by decide +kernel⟩
theorem bi_is_part (T : Tx K mg Cl) : Binds K T.d_is_part ["digests", "value"] [] := T.F_is_part.binds fun _ _ _ _ _ _ us hl => match us, hl with | [_, _], _ => rfl
theorem ok_is_part (T : Tx K mg Cl) : FnOk P w K mg base CX0 3 T.a_is_part T.d_is_part ["digests", "value"] (spM K Cl 2 m_is_part) := by
  refine fn_ok T.F_is_part sc_is_part rfl rfl fun cdv A outer s H E hr => ?_
  have hN := (sc_is_part).nd
  exact (jss_cons (js_if (jt_w (jw_or (jt_not (jt_tru (je_isi T.b_isinstance T.b_tuple PyProof.Rows.boot_tuple (je_var 1)))) (jw_or (jt_cmp (o_ne (room65 hr)) (je_callB c_len T.b_len PySem.boot_len (ja_cons (je_var 1) ja_nil)) je_int (nomark _)) (jw_or1 (jt_not (jt_tru (je_call (ok_is_word T) (hr.mono (by decide)) T.g_is_word T.F_is_word.kp (bi_is_word T) (let0 nox_def) (ja_cons (je_ix (je_var 1) je_int) ja_nil)))))))) (jss_one (js_ret je_bl)) jss_nil)
    (jss_cons (js_if (jt_w (jw_or (jt_not (jt_tru (je_isi T.b_isinstance T.b_tuple PyProof.Rows.boot_tuple (je_ix (je_var 1) je_int)))) (jw_or1 (jt_cmp (o_ne (room65 hr)) (je_callB c_len T.b_len PySem.boot_len (ja_cons (je_ix (je_var 1) je_int) ja_nil)) (je_glob T.c_DEPTH) (nomark _))))) (jss_one (js_ret je_bl)) jss_nil)
    (jss_one (js_ret (je_callB (c_all rfl) T.b_all PyProof.Rows.boot_all (ja_cons (je_lc rfl hN (ji_tup (je_ix (je_var 1) je_int)) (blkOk_by (own := [("item", 2)]) (by show blkC ["digests", "value", "item"] (defScope s_is_part) _ [("item", 2)] = true; decide +kernel)) (fun _ _ _ _ _ => (jn_nm 2 hN)) (fun _ _ _ _ _ => jts_nil) (fun _ _ _ _ _ => (je_meth T.k_Digests T.m_Digests_is_digest (ok_Digests_is_digest T) (hr.mono (by decide)) (bi_Digests_is_digest T) (let0 nox_def) (je_var 0) (ja_cons (je_var 2) ja_nil)))) ja_nil))))))
theorem sc_is_opening : FnScope ["digests", "value", "part"] ["digests", "value"] (defScope s_is_opening) := ⟨rfl, rfl, rfl, by decide +kernel, rfl, by decide +kernel, by decide +kernel⟩
theorem bi_is_opening (T : Tx K mg Cl) : Binds K T.d_is_opening ["digests", "value"] [] := T.F_is_opening.binds fun _ _ _ _ _ _ us hl => match us, hl with | [_, _], _ => rfl
theorem ok_is_opening (T : Tx K mg Cl) : FnOk P w K mg base CX0 4 T.a_is_opening T.d_is_opening ["digests", "value"] (spM K Cl 2 m_is_opening) := by
  refine fn_ok T.F_is_opening sc_is_opening rfl rfl fun cdv A outer s H E hr => ?_
  have hN := (sc_is_opening).nd
  exact (jss_cons (js_if (jt_w (jw_or (jt_not (jt_tru (je_isi T.b_isinstance T.b_tuple PyProof.Rows.boot_tuple (je_var 1)))) (jw_or (jt_cmp (o_ne (room65 hr)) (je_callB c_len T.b_len PySem.boot_len (ja_cons (je_var 1) ja_nil)) je_int (nomark _)) (jw_or1 (jt_not (jt_tru (je_isi T.b_isinstance T.b_tuple PyProof.Rows.boot_tuple (je_ix (je_var 1) je_int)))))))) (jss_one (js_ret je_bl)) jss_nil)
    (jss_cons (js_if (jt_w (jw_or (jt_not (jt_tru (je_call (ok_are_registers T) (hr.mono (by decide)) T.g_are_registers T.F_are_registers.kp (bi_are_registers T) (let0 nox_def) (ja_cons (je_var 0) (ja_cons (je_ix (je_var 1) je_int) ja_nil))))) (jw_or1 (jt_not (jt_tru (je_meth T.k_Digests T.m_Digests_is_digest (ok_Digests_is_digest T) (hr.mono (by decide)) (bi_Digests_is_digest T) (let0 nox_def) (je_var 0) (ja_cons (je_ix (je_var 1) je_int) ja_nil))))))) (jss_one (js_ret je_bl)) jss_nil)
    (jss_one (js_ret (je_callB (c_all rfl) T.b_all PyProof.Rows.boot_all (ja_cons (je_lc rfl hN (ji_tup (je_ix (je_var 1) je_int)) (blkOk_by (own := [("part", 2)]) (by show blkC ["digests", "value", "part"] (defScope s_is_opening) _ [("part", 2)] = true; decide +kernel)) (fun _ _ _ _ _ => (jn_nm 2 hN)) (fun _ _ _ _ _ => jts_nil) (fun _ _ _ _ _ => (je_call (ok_is_part T) (hr.mono (by decide)) T.g_is_part T.F_is_part.kp (bi_is_part T) (let0 nox_def) (ja_cons (je_var 0) (ja_cons (je_var 2) ja_nil))))) ja_nil))))))
theorem sc_root_by : FnScope ["digests", "place", "digest", "path", "root", "item"] ["digests", "place", "digest", "path"] (defScope s_root_by) := ⟨rfl, rfl, rfl, by decide +kernel, rfl, by decide +kernel, by decide +kernel⟩
theorem bi_root_by (T : Tx K mg Cl) : Binds K T.d_root_by ["digests", "place", "digest", "path"] [] := T.F_root_by.binds fun _ _ _ _ _ _ us hl => match us, hl with | [_, _, _, _], _ => rfl
theorem ok_root_by (T : Tx K mg Cl) : FnOk P w K mg base CX0 3 T.a_root_by T.d_root_by ["digests", "place", "digest", "path"] (spM K Cl 4 m_root_by) := by
  refine fn_ok T.F_root_by sc_root_by rfl rfl fun cdv A outer s H E hr => ?_
  have hN := (sc_root_by).nd
  exact (jss_cons (js_set 4 hN (je_var 2))
    (jss_cons (js_for PassesOwn.never rfl (ji_tup (je_var 3)) (jg_name 5 hN) (jss_cons (js_if (jt_cmp (o_eq (room65 hr)) (je_op o_mod (je_var 1) je_int) je_int (nomark _)) (jss_one (js_set 4 hN (je_meth T.k_Digests T.m_Digests_fold (ok_Digests_fold T) (hr.mono (by decide)) (bi_Digests_fold T) (let0 nox_def) (je_var 0) (ja_cons (je_var 4) (ja_cons (je_var 5) ja_nil))))) (jss_one (js_set 4 hN (je_meth T.k_Digests T.m_Digests_fold (ok_Digests_fold T) (hr.mono (by decide)) (bi_Digests_fold T) (let0 nox_def) (je_var 0) (ja_cons (je_var 5) (ja_cons (je_var 4) ja_nil))))))
    (jss_one (js_set 1 hN (je_op o_fdiv (je_var 1) je_int)))))
    (jss_one (js_ret (je_var 4)))))
theorem sc_root_with : FnScope ["digests", "place", "word", "path"] ["digests", "place", "word", "path"] (defScope s_root_with) := ⟨rfl, rfl, rfl, by decide +kernel, rfl, by decide +kernel, by decide +kernel⟩
theorem bi_root_with (T : Tx K mg Cl) : Binds K T.d_root_with ["digests", "place", "word", "path"] [] := T.F_root_with.binds fun _ _ _ _ _ _ us hl => match us, hl with | [_, _, _, _], _ => rfl
theorem ok_root_with (T : Tx K mg Cl) : FnOk P w K mg base CX0 4 T.a_root_with T.d_root_with ["digests", "place", "word", "path"] (spM K Cl 4 m_root_with) := by
  refine fn_ok T.F_root_with sc_root_with rfl rfl fun cdv A outer s H E hr => ?_
  have hN := (sc_root_with).nd
  exact (jss_one (js_ret (je_call (ok_root_by T) (hr.mono (by decide)) T.g_root_by T.F_root_by.kp (bi_root_by T) (let0 nox_def) (ja_cons (je_var 0) (ja_cons (je_var 1) (ja_cons (je_meth T.k_Digests T.m_Digests_leaf (ok_Digests_leaf T) (hr.mono (by decide)) (bi_Digests_leaf T) (let0 nox_def) (je_var 0) (ja_cons (je_var 2) ja_nil)) (ja_cons (je_var 3) ja_nil)))))))
theorem sc_step_of : FnScope ["digests", "digest", "opening", "registers", "root", "parts", "word", "path", "other", "data", "behind", "written"] ["digests", "digest", "opening"] (defScope s_step_of) := ⟨rfl, rfl, rfl, by decide +kernel, rfl, by decide +kernel, by decide +kernel⟩
theorem bi_step_of (T : Tx K mg Cl) : Binds K T.d_step_of ["digests", "digest", "opening"] [] := T.F_step_of.binds fun _ _ _ _ _ _ us hl => match us, hl with | [_, _, _], _ => rfl
theorem ok_step_of (T : Tx K mg Cl) : FnOk P w K mg base (L2.CX P w) 5 T.a_step_of T.d_step_of ["digests", "digest", "opening"] (spM K Cl 3 m_step_of) := by
  refine fn_okX T.F_step_of sc_step_of rfl rfl fun cdv A outer s H E hr => ?_
  have hN := (sc_step_of).nd
  exact (jss_cons (js_expr (je_call (ok_must T) (hr.mono (by decide)) T.g_must T.F_must.kp (bi_must T) (letX (passes_call (takes_of rfl rfl rfl rfl) (fun _ _ _ _ h => h))) (ja_cons (je_call (ok_is_opening T) (hr.mono (by decide)) T.g_is_opening T.F_is_opening.kp (bi_is_opening T) (let0 nox_def) (ja_cons (je_var 0) (ja_cons (je_var 2) ja_nil))) ja_nil)))
    (jss_cons (js_asg (je_var 2) (jg_tup rfl (jgs_cons (jg_name 3 hN) (jgs_cons (jg_name 4 hN) (jgs_cons (jg_name 5 hN) jgs_nil)))))
    (jss_cons (js_expr (je_call (ok_must T) (hr.mono (by decide)) T.g_must T.F_must.kp (bi_must T) (letX (passes_call (takes_of rfl rfl rfl rfl) (fun _ _ _ _ h => h))) (ja_cons (je_cmp (o_eq (room65 hr)) (je_meth T.k_Digests T.m_Digests_state (ok_Digests_state T) (hr.mono (by decide)) (bi_Digests_state T) (let0 nox_def) (je_var 0) (ja_cons (je_op o_add (je_var 3) (je_tup (ja_cons (je_var 4) ja_nil))) ja_nil)) (je_var 1) (nomark _)) ja_nil)))
    (jss_cons (js_if (jt_cmp (o_ne (room65 hr)) (je_ix (je_var 3) je_int) je_int (nomark _)) (jss_cons (js_expr (je_call (ok_must T) (hr.mono (by decide)) T.g_must T.F_must.kp (bi_must T) (letX (passes_call (takes_of rfl rfl rfl rfl) (fun _ _ _ _ h => h))) (ja_cons (je_cmp (o_eq (room65 hr)) (je_var 5) (je_tup ja_nil) (nomark _)) ja_nil)))
    (jss_one (js_ret (je_var 1)))) jss_nil)
    (jss_cons (js_expr (je_call (ok_must T) (hr.mono (by decide)) T.g_must T.F_must.kp (bi_must T) (letX (passes_call (takes_of rfl rfl rfl rfl) (fun _ _ _ _ h => h))) (ja_cons (je_cmp (o_ne (room65 hr)) (je_var 5) (je_tup ja_nil) (nomark _)) ja_nil)))
    (jss_cons (js_asg (je_ix (je_var 5) je_int) (jg_tup rfl (jgs_cons (jg_name 6 hN) (jgs_cons (jg_name 7 hN) jgs_nil))))
    (jss_cons (js_set 8 hN (je_call (ok_data_of T) (hr.mono (by decide)) T.g_data_of T.F_data_of.kp (bi_data_of T) (let0 nox_def) (ja_cons (je_var 3) (ja_cons (je_var 6) ja_nil))))
    (jss_cons (js_expr (je_call (ok_must T) (hr.mono (by decide)) T.g_must T.F_must.kp (bi_must T) (letX (passes_call (takes_of rfl rfl rfl rfl) (fun _ _ _ _ h => h))) (ja_cons (je_cmp (o_eq (room65 hr)) (je_callB c_len T.b_len PySem.boot_len (ja_cons (je_var 5) ja_nil)) (je_op o_add je_int (je_callTy c_int T.b_int PyProof.Rows.boot_int (ja_cons (je_cmp o_notN (je_var 8) je_non (nomark _)) ja_nil))) (nomark _)) ja_nil)))
    (jss_cons (js_expr (je_call (ok_must T) (hr.mono (by decide)) T.g_must T.F_must.kp (bi_must T) (letX (passes_call (takes_of rfl rfl rfl rfl) (fun _ _ _ _ h => h))) (ja_cons (je_cmp (o_eq (room65 hr)) (je_call (ok_root_with T) (hr.mono (by decide)) T.g_root_with T.F_root_with.kp (bi_root_with T) (let0 nox_def) (ja_cons (je_var 0) (ja_cons (je_ix (je_var 3) je_int) (ja_cons (je_var 6) (ja_cons (je_var 7) ja_nil))))) (je_var 4) (nomark _)) ja_nil)))
    (jss_cons (js_set 9 hN je_non)
    (jss_cons (js_if (jt_cmp o_notN (je_var 8) je_non (nomark _)) (jss_cons (js_asg (je_ix (je_var 5) je_int) (jg_tup rfl (jgs_cons (jg_name 9 hN) (jgs_cons (jg_name 7 hN) jgs_nil))))
    (jss_one (js_expr (je_call (ok_must T) (hr.mono (by decide)) T.g_must T.F_must.kp (bi_must T) (letX (passes_call (takes_of rfl rfl rfl rfl) (fun _ _ _ _ h => h))) (ja_cons (je_cmp (o_eq (room65 hr)) (je_call (ok_root_with T) (hr.mono (by decide)) T.g_root_with T.F_root_with.kp (bi_root_with T) (let0 nox_def) (ja_cons (je_var 0) (ja_cons (je_ix (je_var 8) je_int) (ja_cons (je_var 9) (ja_cons (je_var 7) ja_nil))))) (je_var 4) (nomark _)) ja_nil))))) jss_nil)
    (jss_cons (js_asg (je_call (ok_done_by T) (hr.mono (by decide)) T.g_done_by T.F_done_by.kp (bi_done_by T) (let0 nox_def) (ja_cons (je_var 0) (ja_cons (je_var 3) (ja_cons (je_var 6) (ja_cons (je_var 9) ja_nil))))) (jg_tup rfl (jgs_cons (jg_name 10 hN) (jgs_cons (jg_name 11 hN) jgs_nil))))
    (jss_cons (js_if (jt_cmp o_notN (je_var 11) je_non (nomark _)) (jss_one (js_set 4 hN (je_call (ok_root_with T) (hr.mono (by decide)) T.g_root_with T.F_root_with.kp (bi_root_with T) (let0 nox_def) (ja_cons (je_var 0) (ja_cons (je_ix (je_var 8) je_int) (ja_cons (je_var 11) (ja_cons (je_var 7) ja_nil))))))) jss_nil)
    (jss_one (js_ret (je_meth T.k_Digests T.m_Digests_state (ok_Digests_state T) (hr.mono (by decide)) (bi_Digests_state T) (let0 nox_def) (je_var 0) (ja_cons (je_op o_add (je_var 10) (je_tup (ja_cons (je_var 4) ja_nil))) ja_nil)))))))))))))))))
theorem sc_law : FnScope ["_law_script", "_law_draws_here", "_law_digests", "_law_words_here", "_law_k", "_law_count", "_law_step", "_law_turn", "_law_j", "_law_history", "_law_row", "_law_openings", "_law_machine", "_law_told", "_law_draw", "_law_place", "_law_level", "_law_size", "_law_index", "_law_part", "_law_left", "_law_due", "_law_plain", "_law_led"] ["_law_script"] (defScope s_law) := ⟨rfl, rfl, rfl, by decide +kernel, rfl, by decide +kernel, by decide +kernel⟩
theorem bi_law (T : Tx K mg Cl) : Binds K T.d_law ["_law_script"] [] := T.F_law.binds fun _ _ _ _ _ _ us hl => match us, hl with | [_], _ => rfl
theorem ok_law (T : Tx K mg Cl) : FnOk P w K mg base (L2.CX P w) 13 T.a_law T.d_law ["_law_script"] (spM K Cl 1 m_law) := by
  refine fn_okX T.F_law sc_law rfl rfl fun cdv A outer s H E hr => ?_
  have hN := (sc_law).nd
  exact (jss_cons (js_set 1 hN (je_op o_add (je_call (ok_L_draws T) (hr.mono (by decide)) T.g_L_draws T.F_L_draws.kp (bi_L_draws T) (let0 nox_def) (ja_cons (je_var 0) (ja_cons je_int (ja_cons je_int ja_nil)))) (je_lst (ja_cons je_int (ja_cons je_int (ja_cons je_int ja_nil))))))
    (jss_cons (js_set 2 hN (je_make T.M_Digests (ok_Digests_init T) (hr.mono (by decide)) T.g_Digests (bi_Digests_init T) (let0 nox_def) (ja_cons je_int (ja_cons je_non ja_nil))))
    (jss_cons (js_set 3 hN (je_call (ok_L_words T) (hr.mono (by decide)) T.g_L_words T.F_L_words.kp (bi_L_words T) (let0 nox_def) (ja_cons (je_var 1) (ja_cons (je_op o_add je_int (je_op o_mod (je_ix (je_var 1) je_int) je_int)) ja_nil))))
    (jss_cons (js_set 4 hN (je_op o_mod (je_op o_fdiv (je_ix (je_var 1) je_int) je_int) je_int))
    (jss_cons (js_set 5 hN (je_op o_shl je_int (je_var 4)))
    (jss_cons (js_set 6 hN (je_op o_add je_int (je_op o_mod (je_ix (je_var 1) je_int) (je_var 5))))
    (jss_cons (js_set 7 hN (je_tup (ja_cons je_str (ja_cons (je_var 6) (ja_cons (je_op o_mod (je_op o_fdiv (je_ix (je_var 1) je_int) je_int) je_int) (ja_cons (je_op o_mod (je_ix (je_var 1) je_int) je_int) ja_nil))))))
    (jss_cons (js_if (jt_cmp (o_eq (room65 hr)) (je_op o_mod (je_ix (je_var 1) je_int) je_int) je_int (nomark _)) (jss_one (js_set 7 hN (je_tup (ja_cons je_str (ja_cons (je_var 6) (ja_cons (je_callTy c_tuple T.b_tuple PyProof.Rows.boot_tuple (ja_cons (je_lc rfl hN (ji_rng1 T.b_range (ja_cons (je_op o_mod (je_ix (je_var 1) je_int) je_int) ja_nil)) (blkOk_by (own := [("_law_j", 8)]) (by show blkC ["_law_script", "_law_draws_here", "_law_digests", "_law_words_here", "_law_k", "_law_count", "_law_step", "_law_turn", "_law_j", "_law_history", "_law_row", "_law_openings", "_law_machine", "_law_told", "_law_draw", "_law_place", "_law_level", "_law_size", "_law_index", "_law_part", "_law_left", "_law_due", "_law_plain", "_law_led"] (defScope s_law) _ [("_law_j", 8)] = true; decide +kernel)) (fun _ _ _ _ _ => (jn_nm 8 hN)) (fun _ _ _ _ _ => jts_nil) (fun _ _ _ _ _ => (je_op o_mod (je_ix (je_var 1) (je_op o_mod (je_var 8) (je_callB c_len T.b_len PySem.boot_len (ja_cons (je_var 1) ja_nil)))) je_int))) ja_nil)) ja_nil)))))) jss_nil)
    (jss_cons (js_set 9 hN (je_make T.M_History (ok_History_init T) (hr.mono (by decide)) T.g_History (bi_History_init T) (let0 nox_def) (ja_cons (je_var 2) (ja_cons (je_var 3) (ja_cons (je_var 4) (ja_cons (je_var 7) ja_nil))))))
    (jss_cons (js_asg (je_call (ok_L_run T) (hr.mono (by decide)) T.g_L_run T.F_L_run.kp (bi_L_run T) (let0 nox_def) (ja_cons (je_var 2) (ja_cons (je_var 3) (ja_cons (je_var 5) (ja_cons (je_var 7) ja_nil))))) (jg_tup rfl (jgs_cons (jg_name 10 hN) (jgs_cons (jg_name 11 hN) (jgs_cons (jg_name 12 hN) (jgs_cons (jg_name 13 hN) jgs_nil))))))
    (jss_cons (js_for (passes_of rfl) rfl (ji_lst (je_op o_add (je_sl (je_var 1) jo_none (jo_some je_int)) (je_lst (ja_cons (je_op o_sub (je_var 6) je_int) (ja_cons (je_var 6) (ja_cons (je_callB (c_min2 rfl) T.b_min PyProof.Rows.boot_min (ja_cons (je_op o_add (je_var 6) je_int) (ja_cons (je_var 5) ja_nil))) (ja_cons (je_var 5) ja_nil))))))) (jg_name 14 hN) (jss_cons (js_set 15 hN (je_op o_mod (je_var 14) (je_op o_add (je_var 5) je_int)))
    (jss_cons (js_if (jt_cmp (o_ne (room65 hr)) (je_meth T.k_History T.m_History_digest (ok_History_digest T) (hr.mono (by decide)) (bi_History_digest T) (let0 nox_def) (je_var 9) (ja_cons (je_var 15) ja_nil)) (je_ix (je_var 10) (je_var 15)) (nomark _)) (jss_one (js_ret je_bl)) jss_nil)
    (jss_one (js_if (jt_w (jw_and (jt_cmp o_lt (je_var 15) (je_var 5) (nomark _)) (jw_and1 (jt_cmp (o_ne (room65 hr)) (je_meth T.k_History T.m_History_opening (ok_History_opening T) (hr.mono (by decide)) (bi_History_opening T) (let0 nox_def) (je_var 9) (ja_cons (je_var 15) ja_nil)) (je_ix (je_var 11) (je_var 15)) (nomark _))))) (jss_one (js_ret je_bl)) jss_nil)))))
    (jss_cons (js_for (passes_of rfl) rfl (ji_rng1 T.b_range (ja_cons (je_op o_add (je_var 4) je_int) ja_nil)) (jg_name 16 hN) (jss_cons (js_set 17 hN (je_op o_shl je_int (je_var 16)))
    (jss_one (js_for (passes_of rfl) rfl (ji_lst (je_lst (ja_cons (je_op o_mod (je_ix (je_var 1) (je_op o_mod (je_var 16) (je_callB c_len T.b_len PySem.boot_len (ja_cons (je_var 1) ja_nil)))) (je_op o_fdiv (je_var 5) (je_var 17))) (ja_cons (je_op o_fdiv (je_op o_sub (je_var 6) je_int) (je_var 17)) ja_nil)))) (jg_name 18 hN) (jss_cons (js_set 19 hN (je_sl (je_var 10) (jo_some (je_op o_add je_int (je_op o_mul (je_var 18) (je_var 17)))) (jo_some (je_op o_add je_int (je_op o_mul (je_op o_add (je_var 18) je_int) (je_var 17))))))
    (jss_cons (js_if (jt_cmp (o_ne (room65 hr)) (je_meth T.k_History T.m_History_root (ok_History_root T) (hr.mono (by decide)) (bi_History_root T) (let0 nox_def) (je_var 9) (ja_cons (je_var 16) (ja_cons (je_var 18) ja_nil))) (je_call (ok_root_of T) (hr.mono (by decide)) T.g_root_of T.F_root_of.kp (bi_root_of T) (let0 nox_def) (ja_cons (je_var 2) (ja_cons (je_var 19) ja_nil))) (nomark _)) (jss_one (js_ret je_bl)) jss_nil)
    (jss_one (js_if (jt_cmp o_gt (je_var 16) je_int (nomark _)) (jss_cons (js_set 20 hN (je_sl (je_var 19) jo_none (jo_some (je_op o_fdiv (je_var 17) je_int))))
    (jss_cons (js_set 21 hN (je_tup (ja_cons (je_call (ok_root_of T) (hr.mono (by decide)) T.g_root_of T.F_root_of.kp (bi_root_of T) (let0 nox_def) (ja_cons (je_var 2) (ja_cons (je_var 20) ja_nil))) (ja_cons (je_call (ok_root_of T) (hr.mono (by decide)) T.g_root_of T.F_root_of.kp (bi_root_of T) (let0 nox_def) (ja_cons (je_var 2) (ja_cons (je_sl (je_var 19) (jo_some (je_op o_fdiv (je_var 17) je_int)) jo_none) ja_nil))) (ja_cons (je_ix (je_var 20) (je_un u_neg je_int)) (ja_cons (je_call (ok_path_of T) (hr.mono (by decide)) T.g_path_of T.F_path_of.kp (bi_path_of T) (let0 nox_def) (ja_cons (je_var 2) (ja_cons (je_var 20) (ja_cons (je_op o_sub (je_callB c_len T.b_len PySem.boot_len (ja_cons (je_var 20) ja_nil)) je_int) ja_nil)))) ja_nil))))))
    (jss_one (js_if (jt_cmp (o_ne (room65 hr)) (je_meth T.k_History T.m_History_halves (ok_History_halves T) (hr.mono (by decide)) (bi_History_halves T) (let0 nox_def) (je_var 9) (ja_cons (je_var 16) (ja_cons (je_var 18) ja_nil))) (je_var 21) (nomark _)) (jss_one (js_ret je_bl)) jss_nil)))) jss_nil))))))))
    (jss_cons (js_if (jt_cmp (o_ne (room65 hr)) (je_meth0 T.k_History T.m_History_end (ok_History_end T) (hr.mono (by decide)) (bi_History_end T) (let0 nox_def) (je_var 9)) (je_tup (ja_cons (je_ix (je_var 10) (je_un u_neg je_int)) (ja_cons (je_call (ok_path_of T) (hr.mono (by decide)) T.g_path_of T.F_path_of.kp (bi_path_of T) (let0 nox_def) (ja_cons (je_var 2) (ja_cons (je_sl (je_var 10) (jo_some je_int) jo_none) (ja_cons (je_op o_sub (je_var 5) je_int) ja_nil)))) (ja_cons (je_meth0 T.k_Machine T.m_Machine_registers (ok_Machine_registers T) (hr.mono (by decide)) (bi_Machine_registers T) (let0 nox_def) (je_var 12)) (ja_cons (je_meth0 T.k_Machine T.m_Machine_root (ok_Machine_root T) (hr.mono (by decide)) (bi_Machine_root T) (let0 nox_def) (je_var 12)) (ja_cons (je_var 13) ja_nil)))))) (nomark _)) (jss_one (js_ret je_bl)) jss_nil)
    (jss_cons (js_set 22 hN (je_make T.M_History (ok_History_init T) (hr.mono (by decide)) T.g_History (bi_History_init T) (let0 nox_def) (ja_cons (je_var 2) (ja_cons (je_var 3) (ja_cons (je_var 4) (ja_cons je_non ja_nil))))))
    (jss_cons (js_set 23 hN (je_cmp (o_eq (room65 hr)) (je_call (ok_step_of T) (hr.mono (by decide)) T.g_step_of T.F_step_of.kp (bi_step_of T) (letX (passes_call (takes_of rfl rfl rfl rfl) (fun _ _ _ _ h => h))) (ja_cons (je_var 2) (ja_cons (je_ix (je_var 10) (je_op o_sub (je_var 6) je_int)) (ja_cons (je_ix (je_var 11) (je_op o_sub (je_var 6) je_int)) ja_nil)))) (je_ix (je_var 10) (je_var 6)) (nomark _)))
    (jss_one (js_ret (je_cmp (o_eq (room65 hr)) (je_var 23) (je_cmp (o_eq (room65 hr)) (je_meth T.k_History T.m_History_digest (ok_History_digest T) (hr.mono (by decide)) (bi_History_digest T) (let0 nox_def) (je_var 22) (ja_cons (je_var 6) ja_nil)) (je_meth T.k_History T.m_History_digest (ok_History_digest T) (hr.mono (by decide)) (bi_History_digest T) (let0 nox_def) (je_var 9) (ja_cons (je_var 6) ja_nil)) (nomark _)) (nomark _)))))))))))))))))))
end

end Gn
namespace Gn
open PySem L2 Mi
theorem gd_lt {α : Type} {l : List α} {n : Nat} {d : α} (h : n < l.length) : l.getD n d = l[n] := by simp [List.getD, h]
theorem gd_ge {α : Type} {l : List α} {n : Nat} {d : α} (h : l.length ≤ n) : l.getD n d = d := by simp [List.getD, h]
theorem nd_inj {α : Type} {l : List α} (h : l.Nodup) {i j : Nat} {hi : i < l.length} {hj : j < l.length} (e : l[i] = l[j]) : i = j := by
  have p := List.pairwise_iff_getElem.mp h
  rcases Nat.lt_trichotomy i j with c | c | c
  · exact absurd e (p i j hi hj c)
  · exact c
  · exact absurd e.symm (p j i hj hi c)
theorem take_foldl {α β : Type} (f : β → α → β) (b : β) (xs : List α) (k : Nat) (x : α) (h : xs[k]? = some x) : (xs.take (k + 1)).foldl f b = f ((xs.take k).foldl f b) x := by
  have hk := (List.getElem?_eq_some_iff.mp h).1
  have e := (List.getElem?_eq_some_iff.mp h).2
  rw [List.take_succ, h]
  simp
def Word (x : Int) : Prop := 0 ≤ x ∧ x < 65536
/-! ### digests -/
def DigOb (m : Int) (o : Ob) : Prop := ∃ b : Int, o = .ins 0 [("_bits", .int b), ("_modulus", .int m), ("_book", .non)]
def DigAt (m : Int) (st : Sto) (j : Nat) : Prop := ∃ o, st[j]? = some o ∧ DigOb m o
def leafN (m w : Int) : Int := (48271 * w + 11) % m
def foldN (m x y : Int) : Int := (y * y + 3 * x + 7 * y + 1 + (69621 * x + 16807 * y + 5) * (69621 * x + 16807 * y + 5)) % m
theorem mo_small (x y : Int) (h : x.natAbs < 18446744073709551616) : mulOk x y = true := by simp [h]
theorem mo_big (x : Int) (h0 : 0 ≤ x) (h : x < 1267650600228229401496703205376) : mulOk x x = true := by
  have e : x.natAbs.log2 < 101 := by
    by_cases hz : x.natAbs = 0
    · rw [hz]; decide
    · exact (Nat.log2_lt (k := 101) hz).mpr (by omega)
  simp
  omega
section
variable {m : Int} {st : Sto} {j : Nat} (hm : 0 < m) (hm1 : m < 18446744073709551616) (h : DigAt m st j)
include hm h
theorem t_kept (k t : W) (x : Int) : m_Digests_kept [.ref j, k, t, .int x] st = .ok (.int (x % m)) st := by
  obtain ⟨_, ho, b, rfl⟩ := h
  obtain ⟨hi, hg⟩ := List.getElem?_eq_some_iff.mp ho
  have l1 : List.lookup (Str.ofString "_modulus") [(Str.ofString "_bits", W.int b), (Str.ofString "_modulus", W.int m), (Str.ofString "_book", W.non)] = some (W.int m) := rfl
  have l2 : List.lookup (Str.ofString "_book") [(Str.ofString "_bits", W.int b), (Str.ofString "_modulus", W.int m), (Str.ofString "_book", W.non)] = some W.non := rfl
  simp only [m_Digests_kept, b_Digests_kept]
  simp [hi, hg, l1, l2, hm]
include hm1
theorem t_fold (x y : Int) (hx : 0 ≤ x ∧ x < m) (hy : 0 ≤ y ∧ y < m) : m_Digests_fold [.ref j, .int x, .int y] st = .ok (.int (foldN m x y)) st := by
  have hk := fun k t x => t_kept hm h k t x
  obtain ⟨_, ho, b, rfl⟩ := h
  obtain ⟨hi, hg⟩ := List.getElem?_eq_some_iff.mp ho
  have l3 : List.lookup (Str.ofString "_kept") [(Str.ofString "_bits", W.int b), (Str.ofString "_modulus", W.int m), (Str.ofString "_book", W.non)] = none := rfl
  have o1 : ∀ z, mulOk 69621 z = true := fun z => mo_small _ _ (by decide)
  have o2 : ∀ z, mulOk 16807 z = true := fun z => mo_small _ _ (by decide)
  have o3 : ∀ z, mulOk 3 z = true := fun z => mo_small _ _ (by decide)
  have o4 : ∀ z, mulOk 7 z = true := fun z => mo_small _ _ (by decide)
  have o5 : mulOk y y = true := mo_small _ _ (by omega)
  have o6 := mo_big (69621 * x + 16807 * y + 5) (by omega) (by omega)
  have s2 : (2 : Nat) ≤ sizeLine := by decide
  simp only [m_Digests_fold, b_Digests_fold]
  simp [-mulOk, hi, hg, l3, hk, foldN, o1, o2, o3, o4, o5, o6, s2]
end
theorem DigAt.app {m : Int} {j : Nat} {s t : Sto} (h : DigAt m s j) : DigAt m (s ++ t) j := by
  obtain ⟨o, h1, h2⟩ := h
  exact ⟨o, by rw [List.getElem?_append_left (List.getElem?_eq_some_iff.mp h1).1]; exact h1, h2⟩
theorem DigAt.sm {m : Int} {i j : Nat} {s t : Sto} (h : DigAt m s j) (hij : j ≠ i) (k : Sm i s t) : DigAt m t j := by
  obtain ⟨o, h1, h2⟩ := h
  exact ⟨o, by rw [k.2.1 j hij]; exact h1, h2⟩
theorem DigAt.only {m : Int} {j : Nat} {A : List Nat} {s t : Sto} (h : DigAt m s j) (k : Only A s t) (hj : j ∉ A) : DigAt m t j := by
  obtain ⟨o, h1, h2⟩ := h
  exact ⟨o, k.rd h1 hj, h2⟩
theorem t_make (S : Sto) (b : Nat) (hb : b ≤ 61) : m_Digests_init [.ref S.length, .int (b : Int), .non] (S ++ [.ins 0 []]) = .ok .non (S ++ [.ins 0 [("_bits", .int (b : Int)), ("_modulus", .int (2 ^ b - 1)), ("_book", .non)]]) := by
  have h1 : (0 : Int) ≤ b := by omega
  have h2 : (b : Int) ≤ 1000000 := by omega
  simp only [m_Digests_init, b_Digests_init]
  simp [h1, h2, putW]
end Gn

namespace Gn
open PySem L2 Mi
/-! ### the memory's tree -/
def In (m x : Int) : Prop := 0 ≤ x ∧ x < m
theorem in_fold {m : Int} (hm : 0 < m) (x y : Int) : In m (foldN m x y) := ⟨Int.emod_nonneg _ (by omega), Int.emod_lt_of_pos _ hm⟩
theorem in_leaf {m : Int} (hm : 0 < m) (x : Int) : In m (leafN m x) := ⟨Int.emod_nonneg _ (by omega), Int.emod_lt_of_pos _ hm⟩
theorem getD_in {m : Int} (hm : 0 < m) {row : List Int} (h : ∀ x ∈ row, In m x) (p : Nat) : In m (gt row p) := by
  by_cases hp : p < row.length
  · have e : gt row p = row[p] := by simp [gt, List.getD, hp]
    rw [e]; exact h _ (List.getElem_mem hp)
  · have e : gt row p = 0 := by simp [gt, List.getD, hp]
    rw [e]; exact ⟨by omega, hm⟩
theorem atI_ints (row : List Int) (p : Nat) (hp : p < row.length) : atI (row.map W.int) (p : Int) = some (.int (gt row p)) := by
  refine atI_nn (by omega) ?_
  simp [gt, hp, List.getD]
section
variable {m : Int} {st : Sto} {j a : Nat} {row : List Int} (hm : 0 < m) (hm1 : m < 18446744073709551616) (hD : DigAt m st j) (ha : st[a]? = some (.lst (row.map W.int))) (hr : ∀ x ∈ row, In m x)
include hm hm1 hD ha hr
theorem t_e0 (p : Nat) (hp : p + 1 < row.length) (u : List (Option W)) : e0_folded (some (.ref j) :: some (.ref a) :: some (.int (p : Int)) :: u) st = .ok (.int (foldN m (gt row p) (gt row (p + 1)))) st := by
  have f := t_fold hm hm1 hD (gt row p) (gt row (p + 1)) (getD_in hm hr p) (getD_in hm hr (p + 1))
  have at1 := atI_ints row p (by omega)
  have at2 : atI (row.map W.int) ((p : Int) + 1) = some (.int (gt row (p + 1))) := atI_ints row (p + 1) hp
  obtain ⟨_, ho, b, rfl⟩ := hD
  obtain ⟨hi, hg⟩ := List.getElem?_eq_some_iff.mp ho
  obtain ⟨hai, hag⟩ := List.getElem?_eq_some_iff.mp ha
  have l4 : List.lookup (Str.ofString "fold") [(Str.ofString "_bits", W.int b), (Str.ofString "_modulus", W.int m), (Str.ofString "_book", W.non)] = none := rfl
  simp [e0_folded, hi, hg, l4, hai, hag, at1, at2, f]
theorem t_folded (n : Nat) (hn : row.length = 2 * n) (h1 : Builtin.Range.small 0 (row.length : Int) 2 = true) (h2 : Builtin.Range.rangeSize 0 (row.length : Int) 2 = (n : Int)) (hz : n ≤ 1000) :
    m_folded [.ref j, .ref a] st = .ok (.ref st.length) (st ++ [.lst ((prs (foldN m) row).map W.int)]) := by
  have e := lc_vals (ws := (List.range n).map fun k => W.int (0 + (k : Nat) * 2)) (g := NT.m (.nm 2)) (t := mYes) (e := e0_folded) (s := [some (.ref j), some (.ref a), none]) (st := st) (fun _ => true)
    (fun w => match w with | .int p => .int (foldN m (gt row p.toNat) (gt row (p.toNat + 1))) | w => w) (by simp [sizeLine_eq]; omega) (fun w hw => by
      simp only [List.mem_map, List.mem_range] at hw
      obtain ⟨k, hk, rfl⟩ := hw
      refine ⟨[some (.ref j), some (.ref a), some (.int (0 + (k : Nat) * 2))], rfl, rfl, fun _ => ?_⟩
      have ek : (0 : Int) + (k : Nat) * 2 = ((2 * k : Nat) : Int) := by omega
      rw [ek]
      exact t_e0 hm hm1 hD ha hr (2 * k) (by omega) [])
  have ep : (((List.range n).map fun k => W.int (0 + (k : Nat) * 2)).filter fun _ => true).map (fun w => match w with | .int p => W.int (foldN m (gt row p.toNat) (gt row (p.toNat + 1))) | w => w) = (prs (foldN m) row).map W.int := by
    have hl : row.length / 2 = n := by omega
    have hf : ∀ l : List W, (l.filter fun _ => true) = l := fun l => List.filter_eq_self.mpr fun _ _ => rfl
    rw [hf]
    simp only [prs, hl, List.map_map]
    refine List.map_congr_left fun k hk => ?_
    have ek : ((0 : Int) + (k : Nat) * 2).toNat = 2 * k := by omega
    simp only [Function.comp, ek]
  rw [ep] at e
  simp only [List.length_map, List.length_range] at e
  obtain ⟨hai, hag⟩ := List.getElem?_eq_some_iff.mp ha
  have h3 : (0 : Int) ≤ (n : Int) := by omega
  simp only [m_folded, b_folded]
  simp [hai, hag, h1, h2, wipeW]
  simp at e
  simp [e]
end
end Gn

namespace Gn
open PySem L2 Mi
/-! ### a memory made -/
def ad (L i : Nat) : Nat := if i = 0 then L + 2 else L + 3 + i
theorem ad_inj {L i k : Nat} (h : ad L i = ad L k) : i = k := by unfold ad at h; split at h <;> split at h <;> omega
theorem ad_ne {L i : Nat} : ad L i ≠ L ∧ ad L i ≠ L + 1 ∧ ad L i ≠ L + 3 := by unfold ad; split <;> omega
theorem last_map {α : Type} (g : Nat → α) (k : Nat) : atI ((List.range (k + 1)).map g) (-1) = some (g k) := by
  have h : ixN ((List.range (k + 1)).map g).length (-1) = some k := by
    simp only [ixN, List.length_map, List.length_range]
    rw [if_neg (by omega), if_pos (by omega)]
    congr 1
    omega
  rw [atI, h]
  simp
abbrev memF (j w r : Nat) : Fl := [("_digests", .ref j), ("_words", .ref w), ("_rows", .ref r)]
/-- a memory in the making: rows 0 to k stand -/
structure MemK (m : Int) (S : Sto) (j : Nat) (words : List Int) (k : Nat) (st : Sto) : Prop where
  pre : ∃ T, st = S ++ T ∧ T.length = 4 + k
  ob : st[S.length]? = some (.ins 2 (memF j (S.length + 1) (S.length + 3)))
  wo : st[S.length + 1]? = some (.lst (words.map W.int))
  ro : st[S.length + 3]? = some (.lst ((List.range (k + 1)).map fun i => W.ref (ad S.length i)))
  rw : ∀ i, i ≤ k → st[ad S.length i]? = some (.lst ((lev (foldN m) (words.map (leafN m)) i).map W.int))
theorem app_lt {α : Type} {s t : List α} {i : Nat} {x : α} (h : s[i]? = some x) : (s ++ t)[i]? = some x := by
  rw [List.getElem?_append_left (List.getElem?_eq_some_iff.mp h).1]; exact h
theorem pow_sm : ∀ k, k < 8 → Builtin.Range.small 0 ((256 / 2 ^ k : Nat) : Int) 2 = true ∧ Builtin.Range.rangeSize 0 ((256 / 2 ^ k : Nat) : Int) 2 = ((256 / 2 ^ (k + 1) : Nat) : Int) ∧ 256 / 2 ^ k = 2 * (256 / 2 ^ (k + 1)) ∧ 1 < 256 / 2 ^ k ∧ 256 / 2 ^ (k + 1) ≤ 1000 := by decide
section
variable {m : Int} {S : Sto} {j : Nat} {words : List Int} (hm : 0 < m) (hm1 : m < 18446744073709551616) (hl : words.length = 256)
include hm hm1 hl
theorem lev_ok (k : Nat) : (lev (foldN m) (words.map (leafN m)) k).length = 256 / 2 ^ k ∧ ∀ x ∈ lev (foldN m) (words.map (leafN m)) k, In m x := by
  refine ⟨by rw [lev_len, List.length_map, hl], lev_in _ _ _ (fun x y _ _ => in_fold hm x y) (fun x hx => ?_) k⟩
  simp only [List.mem_map] at hx
  obtain ⟨y, _, rfl⟩ := hx
  exact in_leaf hm y
theorem t_memtest (k : Nat) (st : Sto) (h : MemK m S j words k st) (v w u : Option W) : t1_Memory_init [some (.ref S.length), v, w, u] st = .ok (decide (1 < 256 / 2 ^ k)) st := by
  obtain ⟨hi, hg⟩ := List.getElem?_eq_some_iff.mp h.ob
  obtain ⟨hri, hrg⟩ := List.getElem?_eq_some_iff.mp h.ro
  obtain ⟨hki, hkg⟩ := List.getElem?_eq_some_iff.mp (h.rw k (Nat.le_refl _))
  have l1 : List.lookup (Str.ofString "_rows") [(Str.ofString "_digests", W.ref j), (Str.ofString "_words", W.ref (S.length + 1)), (Str.ofString "_rows", W.ref (S.length + 3))] = some (W.ref (S.length + 3)) := rfl
  have la := last_map (fun i => W.ref (ad S.length i)) k
  have hlen := (lev_ok hm hm1 hl k).1
  generalize 256 / 2 ^ k = q at hlen ⊢
  have e : decide ((1 : Int) < (q : Int)) = decide (1 < q) := decide_eq_decide.mpr (by omega)
  simp only [t1_Memory_init]
  simp [hi, hg, l1, hri, hrg, la, hki, hkg, hlen, e]
theorem t_memstep (k : Nat) (hk : k < 8) (st : Sto) (hD : DigAt m st j) (h : MemK m S j words k st) (w u : Option W) : ∃ st', l2_Memory_init [some (.ref S.length), some (.ref j), w, u] st = .nx [some (.ref S.length), some (.ref j), w, u] st' ∧ MemK m S j words (k + 1) st' := by
  obtain ⟨hi, hg⟩ := List.getElem?_eq_some_iff.mp h.ob
  obtain ⟨hri, hrg⟩ := List.getElem?_eq_some_iff.mp h.ro
  obtain ⟨p1, p2, p3, p4, p5⟩ := pow_sm k hk
  obtain ⟨q1, q2⟩ := lev_ok hm hm1 hl (words := words) k
  have l1 : List.lookup (Str.ofString "_rows") [(Str.ofString "_digests", W.ref j), (Str.ofString "_words", W.ref (S.length + 1)), (Str.ofString "_rows", W.ref (S.length + 3))] = some (W.ref (S.length + 3)) := rfl
  have la := last_map (fun i => W.ref (ad S.length i)) k
  have hf := t_folded hm hm1 hD (h.rw k (Nat.le_refl _)) q2 (256 / 2 ^ (k + 1)) (by rw [q1, p3]) (by rw [q1]; exact p1) (by rw [q1]; exact p2) p5
  obtain ⟨T, hT, hTl⟩ := h.pre
  have hst : st.length = S.length + 4 + k := by rw [hT, List.length_append, hTl]; omega
  have had : ad S.length (k + 1) = st.length := by unfold ad; rw [if_neg (by omega), hst]; omega
  have hri2 : S.length + 3 < st.length + 1 := by omega
  have hrg2 := app_lt (t := [Ob.lst ((prs (foldN m) (lev (foldN m) (words.map (leafN m)) k)).map W.int)]) h.ro
  obtain ⟨hri3, hrg3⟩ := List.getElem?_eq_some_iff.mp hrg2
  have sl : k + 1 < sizeLine := by rw [sizeLine_eq]; omega
  have l0 : List.lookup (Str.ofString "_digests") [(Str.ofString "_digests", W.ref j), (Str.ofString "_words", W.ref (S.length + 1)), (Str.ofString "_rows", W.ref (S.length + 3))] = some (W.ref j) := rfl
  refine ⟨(st ++ [Ob.lst ((prs (foldN m) (lev (foldN m) (words.map (leafN m)) k)).map W.int)]).set (S.length + 3) (Ob.lst ((List.range (k + 1)).map (fun i => W.ref (ad S.length i)) ++ [W.ref st.length])), ?_, ?_, ?_, ?_, ?_, ?_⟩
  · simp only [l2_Memory_init]
    simp [hi, hg, l0, l1, hri, hrg, la, hf, hri2, hrg3, sl]
  · refine ⟨(T ++ [Ob.lst ((prs (foldN m) (lev (foldN m) (words.map (leafN m)) k)).map W.int)]).set 3 (Ob.lst ((List.range (k + 1)).map (fun i => W.ref (ad S.length i)) ++ [W.ref st.length])), ?_, by simp [hTl]; omega⟩
    have e3 : S.length + 3 - S.length = 3 := by omega
    generalize Ob.lst ((List.range (k + 1)).map (fun i => W.ref (ad S.length i)) ++ [W.ref st.length]) = Z
    rw [hT, List.append_assoc, List.set_append_right _ _ (by omega), e3]
  · rw [List.getElem?_set_ne (by omega)]; exact app_lt h.ob
  · rw [List.getElem?_set_ne (by omega)]; exact app_lt h.wo
  · rw [List.getElem?_set_self (by simp; omega), List.range_succ (n := k + 1), List.map_append, ← had]
    rfl
  · intro i hik
    rw [List.getElem?_set_ne (Ne.symm (ad_ne).2.2)]
    rcases Nat.lt_or_ge i (k + 1) with h1 | h1
    · exact app_lt (h.rw i (by omega))
    · have e : i = k + 1 := by omega
      subst e
      rw [had]
      simp [lev]
end
end Gn

namespace Gn
open PySem L2 Mi
section
variable {m : Int} {st : Sto} {j : Nat} (hm : 0 < m) (h : DigAt m st j)
include hm h
theorem t_leaf (w : Int) : m_Digests_leaf [.ref j, .int w] st = .ok (.int (leafN m w)) st := by
  have hk := fun k t x => t_kept hm h k t x
  obtain ⟨_, ho, b, rfl⟩ := h
  obtain ⟨hi, hg⟩ := List.getElem?_eq_some_iff.mp ho
  have l3 : List.lookup (Str.ofString "_kept") [(Str.ofString "_bits", W.int b), (Str.ofString "_modulus", W.int m), (Str.ofString "_book", W.non)] = none := rfl
  simp only [m_Digests_leaf, b_Digests_leaf]
  simp [hi, hg, l3, hk, leafN]
end
end Gn

namespace Gn
open PySem L2 Mi
section
variable {m : Int} {S : Sto} {j : Nat} {words : List Int} (hm : 0 < m) (hm1 : m < 18446744073709551616) (hl : words.length = 256) (hDS : DigAt m S j)
include hm hm1 hl hDS
theorem t_memloop (w u : Option W) : ∀ (n k : Nat) (st : Sto), k + n = 8 → MemK m S j words k st →
    ∃ st', mWhileN t1_Memory_init l2_Memory_init (n + 1) [some (.ref S.length), some (.ref j), w, u] st = .nx [some (.ref S.length), some (.ref j), w, u] st' ∧ MemK m S j words 8 st'
  | 0, k, st, e, h => by
    have e8 : k = 8 := by omega
    subst e8
    have ht := t_memtest hm hm1 hl 8 st h (some (.ref j)) w u
    refine ⟨st, ?_, h⟩
    simp only [mWhileN, ht]
    rfl
  | n + 1, k, st, e, h => by
    have ht := t_memtest hm hm1 hl k st h (some (.ref j)) w u
    obtain ⟨T, hT, _⟩ := h.pre
    have hD : DigAt m st j := by rw [hT]; exact hDS.app
    obtain ⟨st1, hs, h1⟩ := t_memstep hm hm1 hl k (by omega) st hD h w u
    obtain ⟨st2, h2, h3⟩ := t_memloop w u n (k + 1) st1 (by omega) h1
    have hp : decide (1 < 256 / 2 ^ k) = true := decide_eq_true (pow_sm k (by omega)).2.2.2.1
    rw [hp] at ht
    refine ⟨st2, ?_, h3⟩
    rw [mWhileN]
    simp only [ht, Out.run, if_true, hs]
    exact h2
theorem t_e0m (st : Sto) (hD : DigAt m st j) (v w : Option W) (x : Int) : e0_Memory_init [v, some (.ref j), w, some (.int x)] st = .ok (.int (leafN m x)) st := by
  have f := t_leaf hm hD x
  obtain ⟨_, ho, b, rfl⟩ := hD
  obtain ⟨hi, hg⟩ := List.getElem?_eq_some_iff.mp ho
  have l4 : List.lookup (Str.ofString "leaf") [(Str.ofString "_bits", W.int b), (Str.ofString "_modulus", W.int m), (Str.ofString "_book", W.non)] = none := rfl
  simp [e0_Memory_init, hi, hg, l4, f]
theorem t_meminit : ∃ st', m_Memory_init [.ref S.length, .ref j, .tup (words.map W.int)] (S ++ [.ins 2 []]) = .ok .non st' ∧ MemK m S j words 8 st' := by
  have e1 : (S ++ [Ob.ins 2 [("_digests", .ref j), ("_words", .ref (S.length + 1))], Ob.lst (words.map W.int)])[S.length + 1]? = some (.lst (words.map W.int)) := by rw [List.getElem?_append_right (by omega)]; simp
  have hlc := lc_cell_at (c := S.length + 1) (n := 256) (g := NT.m (.nm 3)) (t := mYes) (e := e0_Memory_init) (s := [some (.ref S.length), some (.ref j), some (.tup (words.map W.int)), none]) (st := S ++ [Ob.ins 2 [("_digests", .ref j), ("_words", .ref (S.length + 1))], Ob.lst (words.map W.int)]) (fun _ => true)
    (fun w => match w with | .int x => .int (leafN m x) | w => w) e1 (by simpa using hl) (fun w hw => by
      simp only [List.mem_map] at hw
      obtain ⟨x, _, rfl⟩ := hw
      exact ⟨[some (.ref S.length), some (.ref j), some (.tup (words.map W.int)), some (.int x)], rfl, rfl, fun _ => t_e0m hm hm1 hl hDS _ hDS.app _ _ x⟩) 256 0 [] (by simpa using hl.symm) (by simp [sizeLine_eq])
  rw [List.drop_zero, filter_yes, List.map_map, List.nil_append] at hlc
  have em : ((fun w => match w with | .int x => W.int (leafN m x) | w => w) ∘ W.int) = W.int ∘ leafN m := rfl
  rw [em, ← List.map_map] at hlc
  have base : MemK m S j words 0 (S ++ [Ob.ins 2 (memF j (S.length + 1) (S.length + 3)), .lst (words.map W.int), .lst ((words.map (leafN m)).map W.int), .lst [.ref (S.length + 2)]]) := by
    refine ⟨⟨_, rfl, rfl⟩, by simp, ?_, ?_, fun i hi => ?_⟩
    · rw [List.getElem?_append_right (by omega)]; simp
    · rw [List.getElem?_append_right (by omega)]; simp [ad, List.range_succ]
    · have : i = 0 := by omega
      subst this
      rw [List.getElem?_append_right (by simp [ad])]; simp [ad, lev]
  obtain ⟨st', hw, h8⟩ := t_memloop hm hm1 hl hDS (some (.tup (words.map W.int))) none 8 0 _ (by omega) base
  refine ⟨st', ?_, h8⟩
  clear base
  generalize (words.map (leafN m)).map W.int = row0 at hlc hw
  have s256 : (256 : Nat) ≤ sizeLine := by decide
  have s0 : (0 : Nat) ≤ sizeLine := by decide
  have s2 : (1 : Nat) ≤ sizeLine := by decide
  have l0 : List.lookup (Str.ofString "_words") [(Str.ofString "_digests", W.ref j), (Str.ofString "_words", W.ref (S.length + 1))] = some (W.ref (S.length + 1)) := rfl
  simp only [m_Memory_init, b_Memory_init, w_PLACES]
  have lc : ∀ c n, (Src.cell c n).len = n := fun _ _ => rfl
  simp [putW, hl, s256, s0, s2, l0, wipeW, lc, hlc, hw]
end
end Gn

namespace Gn
open PySem L2 Mi
/-! ### a memory changed -/
abbrev lv (m : Int) (words : List Int) (k : Nat) : List Int := lev (foldN m) (words.map (leafN m)) k
structure MemAt (m : Int) (j e w r : Nat) (rs : List Nat) (words : List Int) (st : Sto) : Prop where
  ob : st[e]? = some (Ob.ins 2 (memF j w r))
  wo : st[w]? = some (Ob.lst (words.map W.int))
  ro : st[r]? = some (Ob.lst (rs.map W.ref))
  rl : rs.length = 9
  rw : ∀ k a, rs[k]? = some a → st[a]? = some (Ob.lst ((lv m words k).map W.int))
  nd : (e :: w :: r :: rs).Nodup
  wl : words.length = 256
theorem nd_at {rs : List Nat} (h : rs.Nodup) {i k a b : Nat} (hi : rs[i]? = some a) (hk : rs[k]? = some b) (hn : i ≠ k) : a ≠ b := by
  rintro rfl
  obtain ⟨l1, e1⟩ := List.getElem?_eq_some_iff.mp hi
  obtain ⟨l2, e2⟩ := List.getElem?_eq_some_iff.mp hk
  exact hn (nd_inj h (e1.trans e2.symm))
/-- rows below k are new, the others old -/
structure MidAt (m : Int) (j e w r : Nat) (rs : List Nat) (old new : List Int) (k : Nat) (st : Sto) : Prop where
  ob : st[e]? = some (Ob.ins 2 (memF j w r))
  wo : st[w]? = some (Ob.lst (new.map W.int))
  ro : st[r]? = some (Ob.lst (rs.map W.ref))
  rw : ∀ i a, rs[i]? = some a → st[a]? = some (Ob.lst ((lv m (if i < k then new else old) i).map W.int))
theorem lev_len2 (m : Int) (words : List Int) (hl : words.length = 256) (k : Nat) : (lv m words k).length = 256 / 2 ^ k := by rw [lev_len, List.length_map, hl]
theorem pow_dv : ∀ k, k < 9 → 2 ^ k ∣ 256 := by decide
section
variable {m : Int} {j e w r : Nat} {rs : List Nat} {old : List Int} {p : Nat} {v : Int} (hm : 0 < m) (hm1 : m < 18446744073709551616) (hrl : rs.length = 9) (hnd : (e :: w :: r :: rs).Nodup) (hl : old.length = 256) (hp : p < 256)
include hm hm1 hrl hnd hl hp
theorem t_chstep (k : Nat) (hk : k < 8) (a : Nat) (ha : rs[k]? = some a) (st : Sto) (hD : DigAt m st j) (hja : j ≠ a) (h : MidAt m j e w r rs old (old.set p v) k st) (u x : Option W) (vw : W) :
    l0_Memory_change [some (.ref e), some (.int ((p / 2 ^ k : Nat) : Int)), some vw, some (.int (gt (lv m (old.set p v) k) (p / 2 ^ k))), some (.ref a), x] st =
      .nx [some (.ref e), some (.int ((p / 2 ^ (k + 1) : Nat) : Int)), some vw, some (.int (gt (lv m (old.set p v) (k + 1)) (p / 2 ^ (k + 1)))), some (.ref a), some (.int ((2 * (p / 2 ^ k / 2) : Nat) : Int))] (st.set a (Ob.lst ((lv m (old.set p v) k).map W.int))) ∧
    MidAt m j e w r rs old (old.set p v) (k + 1) (st.set a (Ob.lst ((lv m (old.set p v) k).map W.int))) := by
  have hrow := h.rw k a ha
  rw [if_neg (Nat.lt_irrefl k)] at hrow
  have hq : p / 2 ^ k < 256 / 2 ^ k := Nat.div_lt_div_of_lt_of_dvd (pow_dv k (by omega)) hp
  obtain ⟨p1, p2, p3, p4, p5⟩ := pow_sm k hk
  have hll := lev_len2 m old hl k
  have hln := lev_len2 m (old.set p v) (by simpa using hl) k
  have hset : (lv m old k).set (p / 2 ^ k) (gt (lv m (old.set p v) k) (p / 2 ^ k)) = lv m (old.set p v) k := by
    have z := lev_set (foldN m) (old.map (leafN m)) p (leafN m v) (by simp [hl, hp]) k (by rw [List.length_map, hl]; exact pow_dv k (by omega))
    rw [← List.map_set] at z
    exact z.symm
  have hmap : ((lv m old k).map W.int).set (p / 2 ^ k) (W.int (gt (lv m (old.set p v) k) (p / 2 ^ k))) = (lv m (old.set p v) k).map W.int := by rw [← List.map_set, hset]
  have e2 : p / 2 ^ (k + 1) = p / 2 ^ k / 2 := by rw [Nat.div_div_eq_div_mul, Nat.pow_succ]
  have hin : ∀ x ∈ lv m (old.set p v) k, In m x := (lev_ok hm hm1 (words := old.set p v) (by simpa using hl) k).2
  have hnx : gt (lv m (old.set p v) (k + 1)) (p / 2 ^ (k + 1)) = foldN m (gt (lv m (old.set p v) k) (2 * (p / 2 ^ k / 2))) (gt (lv m (old.set p v) k) (2 * (p / 2 ^ k / 2) + 1)) := by
    rw [e2]
    exact prs_getD _ _ _ (by rw [hln]; omega)
  have hD' : DigAt m (st.set a (Ob.lst ((lv m (old.set p v) k).map W.int))) j := by
    obtain ⟨o, h1, h2⟩ := hD
    exact ⟨o, by rw [List.getElem?_set_ne (Ne.symm hja)]; exact h1, h2⟩
  have hf := t_fold hm hm1 hD' (gt (lv m (old.set p v) k) (2 * (p / 2 ^ k / 2))) (gt (lv m (old.set p v) k) (2 * (p / 2 ^ k / 2) + 1)) (getD_in hm hin _) (getD_in hm hin _)
  have at1 := atI_ints (lv m (old.set p v) k) (2 * (p / 2 ^ k / 2)) (by rw [hln]; omega)
  have at2 : atI ((lv m (old.set p v) k).map W.int) (((2 * (p / 2 ^ k / 2) : Nat) : Int) + 1) = some (.int (gt (lv m (old.set p v) k) (2 * (p / 2 ^ k / 2) + 1))) := atI_ints (lv m (old.set p v) k) (2 * (p / 2 ^ k / 2) + 1) (by rw [hln]; omega)
  have nds := List.nodup_cons.mp hnd
  have ndw := List.nodup_cons.mp nds.2
  have ndr := List.nodup_cons.mp ndw.2
  have ham : a ∈ rs := List.mem_of_getElem? ha
  have hea : e ≠ a := fun z => nds.1 (by rw [z]; simp [ham])
  have hwa : w ≠ a := fun z => ndw.1 (by rw [z]; simp [ham])
  have hra : r ≠ a := fun z => ndr.1 (by rw [z]; exact ham)
  refine ⟨?_, ⟨by rw [List.getElem?_set_ne (Ne.symm hea)]; exact h.ob, by rw [List.getElem?_set_ne (Ne.symm hwa)]; exact h.wo, by rw [List.getElem?_set_ne (Ne.symm hra)]; exact h.ro, fun i b hb => ?_⟩⟩
  · rw [hnx, e2]
    generalize hG : gt (lv m (old.set p v) k) (p / 2 ^ k) = g at hmap ⊢
    generalize hQ : p / 2 ^ k = q at *
    obtain ⟨hai, hag⟩ := List.getElem?_eq_some_iff.mp hrow
    obtain ⟨hei, heg⟩ := List.getElem?_eq_some_iff.mp h.ob
    have hix : ixN (256 / 2 ^ k) (q : Int) = some q := by
      simp only [ixN]
      rw [if_pos (by omega), if_pos (by omega), Int.toNat_natCast]
    have s1 : ((q : Int) - (q : Int) % 2) = ((2 * (q / 2) : Nat) : Int) := by omega
    have l2 : (2 : Nat).log2 < 9000 := by decide
    have s2 : (q : Int) / 2 = ((q / 2 : Nat) : Int) := by omega
    generalize 2 * (q / 2) = q2 at *
    have l0 : List.lookup (Str.ofString "_digests") [(Str.ofString "_digests", W.ref j), (Str.ofString "_words", W.ref w), (Str.ofString "_rows", W.ref r)] = some (W.ref j) := rfl
    obtain ⟨o, hDo, b, rfl⟩ := hD'
    obtain ⟨hji, hjg⟩ := List.getElem?_eq_some_iff.mp hDo
    have l4 : List.lookup (Str.ofString "fold") [(Str.ofString "_bits", W.int b), (Str.ofString "_modulus", W.int m), (Str.ofString "_book", W.non)] = none := rfl
    simp only [List.length_set] at hji
    have hjg2 : st[j] = Ob.ins 0 [("_bits", .int b), ("_modulus", .int m), ("_book", .non)] := by rw [List.getElem_set_ne (Ne.symm hja)] at hjg; exact hjg
    generalize (lv m (old.set p v) k).map W.int = R at *
    simp only [l0_Memory_change]
    have g1 : (st.set a (Ob.lst R))[e]? = some (Ob.ins 2 (memF j w r)) := by rw [List.getElem?_set_ne (Ne.symm hea)]; exact h.ob
    have g3 : (st.set a (Ob.lst R))[a]? = some (Ob.lst R) := by rw [List.getElem?_set_self hai]
    simp [hai, hag, hll, hix, hmap]
    generalize st.set a (Ob.lst R) = S2 at hDo hf g1 g3 ⊢
    simp [g1, g3, hDo, l0, l2, s1, at1, at2, l4, hf]
  · by_cases hik : i = k
    · subst hik
      rw [ha] at hb
      cases hb
      rw [if_pos (Nat.lt_succ_self i), List.getElem?_set_self (List.getElem?_eq_some_iff.mp hrow).1]
    · rw [List.getElem?_set_ne (nd_at ndr.2 ha hb (Ne.symm hik)), h.rw i b hb]
      have he : (if i < k then old.set p v else old) = (if i < k + 1 then old.set p v else old) := by
        by_cases h1 : i < k
        · rw [if_pos h1, if_pos (by omega)]
        · rw [if_neg h1, if_neg (by omega)]
      rw [he]
end
end Gn

namespace Gn
open PySem L2 Mi
theorem MemAt.dig_ne {m : Int} {j : Nat} {st : Sto} (hD : DigAt m st j) {a : Nat} {xs : List W} (h : st[a]? = some (Ob.lst xs)) : j ≠ a := by
  rintro rfl
  obtain ⟨_, h1, _, rfl⟩ := hD
  rw [h] at h1
  cases h1
theorem DigAt.set {m : Int} {j : Nat} {st : Sto} (hD : DigAt m st j) {a : Nat} {o : Ob} (h : j ≠ a) : DigAt m (st.set a o) j := by
  obtain ⟨o', h1, h2⟩ := hD
  exact ⟨o', by rw [List.getElem?_set_ne (Ne.symm h)]; exact h1, h2⟩
theorem nd_set {l : List Nat} (h : l.Nodup) {n : Nat} (hn : n ∉ l) (i : Nat) : (l.set i n).Nodup := by
  refine List.pairwise_iff_getElem.mpr fun a b ha hb hab => ?_
  have ha' : a < l.length := by simpa using ha
  have hb' : b < l.length := by simpa using hb
  rw [List.getElem_set, List.getElem_set]
  by_cases h1 : i = a
  · rw [if_pos h1, if_neg (by omega)]
    intro z; exact hn (by rw [z]; exact List.getElem_mem hb')
  · rw [if_neg h1]
    by_cases h2 : i = b
    · rw [if_pos h2]; intro z; exact hn (by rw [← z]; exact List.getElem_mem ha')
    · rw [if_neg h2]; exact List.pairwise_iff_getElem.mp h a b ha' hb' hab
theorem cut8 (rs : List Nat) (h : rs.length = 9) : cutW (rs.map W.ref) none (some (-1)) = (rs.take 8).map W.ref := by
  match rs, h with
  | [a, b, c, d, e, f, g, h, i], _ => rfl
theorem t_change {m : Int} {j e w r : Nat} {rs : List Nat} {old : List Int} {p : Nat} {v : Int} {st : Sto} (hm : 0 < m) (hm1 : m < 18446744073709551616) (h : MemAt m j e w r rs old st) (hD : DigAt m st j) (hp : p < 256) :
    ∃ st', m_Memory_change [.ref e, .int (p : Int), .int v] st = .ok .non st' ∧ MemAt m j e w r (rs.set 8 st.length) (old.set p v) st' ∧ (∀ i, i < st.length → i ≠ w → i ≠ r → i ∉ rs → st'[i]? = st[i]?) ∧ st'.length = st.length + 1 := by
  have hrl := h.rl
  have hnd := h.nd
  have hl := h.wl
  have nds := List.nodup_cons.mp hnd
  have ndw := List.nodup_cons.mp nds.2
  have ndr := List.nodup_cons.mp ndw.2
  have hew : e ≠ w := fun z => nds.1 (by rw [z]; simp)
  have her : e ≠ r := fun z => nds.1 (by rw [z]; simp)
  have hwr : w ≠ r := fun z => ndw.1 (by rw [z]; simp)
  have hjw : j ≠ w := MemAt.dig_ne hD h.wo
  have hjr : j ≠ r := MemAt.dig_ne hD h.ro
  have hD1 : DigAt m (st.set w (Ob.lst ((old.set p v).map W.int))) j := hD.set hjw
  have m0 : MidAt m j e w r rs old (old.set p v) 0 (st.set w (Ob.lst ((old.set p v).map W.int))) := by
    refine ⟨by rw [List.getElem?_set_ne (Ne.symm hew)]; exact h.ob, by rw [List.getElem?_set_self (List.getElem?_eq_some_iff.mp h.wo).1], by rw [List.getElem?_set_ne hwr]; exact h.ro, fun i a ha => ?_⟩
    rw [if_neg (Nat.not_lt_zero i), List.getElem?_set_ne (fun z => ndw.1 (by rw [z]; simp [List.mem_of_getElem? ha]))]
    exact h.rw i a ha
  have hgt0 : gt (lv m (old.set p v) 0) (p / 2 ^ 0) = leafN m v := by
    show gt ((old.set p v).map (leafN m)) (p / 2 ^ 0) = _
    rw [Nat.pow_zero, Nat.div_one, List.map_set, getD_set_self (by simp [hl, hp])]
  have key := loop_st (ws := (rs.take 8).map W.ref) (g := mGN 4) (n := 8) (s := [some (.ref e), some (.int (p : Int)), some (.int v), some (.int (leafN m v)), none, none]) (st := st.set w (Ob.lst ((old.set p v).map W.int))) (body := l0_Memory_change) (by simp [hrl])
    (fun k s t => (∃ a x : Option W, s = [some (.ref e), some (.int ((p / 2 ^ k : Nat) : Int)), some (.int v), some (.int (gt (lv m (old.set p v) k) (p / 2 ^ k))), a, x]) ∧ MidAt m j e w r rs old (old.set p v) k t ∧ DigAt m t j ∧ t.length = st.length ∧ ∀ i, i ∉ rs → t[i]? = (st.set w (Ob.lst ((old.set p v).map W.int)))[i]?)
    ⟨⟨none, none, by rw [hgt0, Nat.pow_zero, Nat.div_one]⟩, m0, hD1, by simp, fun _ _ => rfl⟩ (by
      rintro k w' s t hw ⟨⟨a0, x0, rfl⟩, hM, hDt, hlt, hfr⟩
      rw [List.getElem?_map] at hw
      have hk : k < 8 := by
        rcases Nat.lt_or_ge k 8 with hk | hk
        · exact hk
        · rw [List.getElem?_eq_none (by simp; omega)] at hw; cases hw
      rw [List.getElem?_take_of_lt hk] at hw
      obtain ⟨a, ha⟩ : ∃ a, rs[k]? = some a := ⟨rs[k]'(by omega), List.getElem?_eq_getElem (by omega)⟩
      rw [ha] at hw
      cases hw
      have hja : j ≠ a := MemAt.dig_ne hDt (hM.rw k a ha)
      obtain ⟨e1, e2⟩ := t_chstep hm hm1 hrl hnd hl hp k hk a ha t hDt hja hM none x0 (.int v)
      refine ⟨_, _, rfl, ?_⟩
      show Step _ _ (l0_Memory_change [some (.ref e), some (.int ((p / 2 ^ k : Nat) : Int)), some (.int v), some (.int (gt (lv m (old.set p v) k) (p / 2 ^ k))), some (.ref a), x0] t)
      rw [e1]
      refine ⟨⟨_, _, rfl⟩, e2, hDt.set hja, by simp [hlt], fun i hi => ?_⟩
      rw [List.getElem?_set_ne (fun z => hi (by rw [← z]; exact List.mem_of_getElem? ha))]
      exact hfr i hi)
  obtain ⟨s8, t8, hlp, ⟨a8, x8, rfl⟩, hM8, hD8, hl8, hf8⟩ := key
  have h8 : p / 2 ^ 8 = 0 := by omega
  rw [h8] at hlp
  have hln := lev_len2 m (old.set p v) (by simpa using hl) 8
  have hone : [gt (lv m (old.set p v) 8) 0] = lv m (old.set p v) 8 := by
    match hz : lv m (old.set p v) 8, hln with
    | [x], _ => rfl
  refine ⟨(t8 ++ [Ob.lst [.int (gt (lv m (old.set p v) 8) 0)]]).set r (Ob.lst ((rs.map W.ref).set 8 (.ref t8.length))), ?_, ?_, ?_, ?_⟩
  · obtain ⟨hwi, hwg⟩ := List.getElem?_eq_some_iff.mp h.wo
    obtain ⟨hei, heg⟩ := List.getElem?_eq_some_iff.mp h.ob
    have hix : ixN 256 (p : Int) = some p := by
      simp only [ixN]
      rw [if_pos (by omega), if_pos (by omega), Int.toNat_natCast]
    have hix9 : ixN 9 (-1) = some 8 := rfl
    have g1 := m0.ob
    have g2 := m0.ro
    have hlf := t_leaf hm hD1 v
    obtain ⟨o, hDo, b, rfl⟩ := hD1
    have l0 : List.lookup (Str.ofString "_digests") [(Str.ofString "_digests", W.ref j), (Str.ofString "_words", W.ref w), (Str.ofString "_rows", W.ref r)] = some (W.ref j) := rfl
    have l1 : List.lookup (Str.ofString "_words") [(Str.ofString "_digests", W.ref j), (Str.ofString "_words", W.ref w), (Str.ofString "_rows", W.ref r)] = some (W.ref w) := rfl
    have l2 : List.lookup (Str.ofString "_rows") [(Str.ofString "_digests", W.ref j), (Str.ofString "_words", W.ref w), (Str.ofString "_rows", W.ref r)] = some (W.ref r) := rfl
    have l4 : List.lookup (Str.ofString "leaf") [(Str.ofString "_bits", W.int b), (Str.ofString "_modulus", W.int m), (Str.ofString "_book", W.non)] = none := rfl
    have g5 := app_lt (t := [Ob.lst [W.int (gt (lv m (old.set p v) 8) 0)]]) hM8.ob
    have g6 := app_lt (t := [Ob.lst [W.int (gt (lv m (old.set p v) 8) 0)]]) hM8.ro
    have hms : (old.map W.int).set p (.int v) = (old.set p v).map W.int := by rw [List.map_set]
    have sl : (1 : Nat) ≤ sizeLine := by decide
    have c8 := cut8 rs hrl
    have hfirst : (mAsg (mVar 2) (mGSub (mFld 2 "_words" (mVar 0)) (mVar 1))) [some (.ref e), some (.int (p : Int)), some (.int v), none, none, none] st = .nx [some (.ref e), some (.int (p : Int)), some (.int v), none, none, none] (st.set w (Ob.lst ((old.set p v).map W.int))) := by
      simp [hwi, hwg, hei, heg, l1, hl, hix, -List.map_set, hms]
    have hlp2 : mLoop (Src.vals ((rs.take 8).map W.ref)) (mGN 4) l0_Memory_change 8 0 [some (.ref e), some (.int (p : Int)), some (.int v), some (.int (leafN m v)), none, none] (st.set w (Ob.lst ((old.set p v).map W.int))) = _ := hlp
    simp only [m_Memory_change, mDef, List.length_cons, List.length_nil, List.map_cons, List.map_nil, List.replicate, List.cons_append, List.nil_append, b_Memory_change, mSeq, Nat.reduceAdd, if_true]
    rw [hfirst]
    clear hfirst hms m0 hlp hf8 hwg heg hwi hei h
    generalize st.set w (Ob.lst ((old.set p v).map W.int)) = S1 at hDo hlf g1 g2 hlp2 ⊢
    generalize hG8 : t8 ++ [Ob.lst [W.int (gt (lv m (old.set p v) 8) 0)]] = S9 at g5 g6 ⊢
    simp [g1, g2, hDo, l0, l2, l4, hlf, c8, hrl, -List.map_take, hlp2, sl, hG8, g5, g6, hix9]
  · have lt : ∀ {i : Nat} {o : Ob}, st[i]? = some o → i < st.length := fun h => (List.getElem?_eq_some_iff.mp h).1
    have hall : ∀ i ∈ e :: w :: r :: rs, i < st.length := by
      intro i hi
      simp only [List.mem_cons] at hi
      rcases hi with rfl | rfl | rfl | hi
      · exact lt h.ob
      · exact lt h.wo
      · exact lt h.ro
      · obtain ⟨k, hk, rfl⟩ := List.getElem_of_mem hi
        exact lt (h.rw k _ (List.getElem?_eq_getElem hk))
    have hrt : r < (t8 ++ [Ob.lst [W.int (gt (lv m (old.set p v) 8) 0)]]).length := by simp [hl8]; have := lt h.ro; omega
    refine ⟨by rw [List.getElem?_set_ne (Ne.symm her)]; exact app_lt hM8.ob, by rw [List.getElem?_set_ne (Ne.symm hwr)]; exact app_lt hM8.wo, ?_, by simp [hrl], fun k a ha => ?_, ?_, by simp [hl]⟩
    · rw [List.getElem?_set_self hrt, List.map_set, hl8]
    · by_cases hk8 : k = 8
      · subst hk8
        rw [List.getElem?_set_self (by omega)] at ha
        cases ha
        rw [List.getElem?_set_ne (by have := lt h.ro; omega), ← hl8, List.getElem?_append_right (Nat.le_refl _), Nat.sub_self, ← hone]
        rfl
      · rw [List.getElem?_set_ne (Ne.symm hk8)] at ha
        have hk9 : k < 9 := by have := (List.getElem?_eq_some_iff.mp ha).1; omega
        have har : r ≠ a := fun z => ndr.1 (by rw [z]; exact List.mem_of_getElem? ha)
        have z := hM8.rw k a ha
        rw [if_pos (by omega)] at z
        rw [List.getElem?_set_ne har]
        exact app_lt z
    · exact nd_set hnd (fun z => by have := hall _ z; omega) 11
  · intro i hi hiw hir hirs
    rw [List.getElem?_set_ne (Ne.symm hir), List.getElem?_append_left (by omega), hf8 i hirs, List.getElem?_set_ne (Ne.symm hiw)]
  · simp [hl8]
end Gn

namespace Gn
open PySem L2 Mi
/-! ### names -/
def names : List String := ["bad", "halt", "lit", "load", "store", "loadx", "storex", "tox", "index", "bound", "within", "not", "+", "-", "*", "/", "mod", "==", "!=", "<", "<=", ">", ">=", "jump", "zero", "some", "call", "back", "tell"]
def nm (n : Nat) : Str := Str.ofString (names.getD n "bad")
theorem names_nodup : names.Nodup := by decide
theorem nm_iff (k : Nat) (h0 : 1 ≤ k) (h : k < 29) (n : Nat) : nm n = Str.ofString (names.getD k "bad") ↔ n = k := by
  have hk : k < names.length := h
  simp only [nm, ofString_iff]
  constructor
  · intro e
    rcases Nat.lt_or_ge n 29 with hn | hn
    · have hn' : n < names.length := hn
      rw [gd_lt hn', gd_lt hk] at e
      exact nd_inj names_nodup e
    · have hn' : names.length ≤ n := hn
      rw [gd_ge hn', gd_lt hk] at e
      have e0 : names[0]'(by decide) = names[k] := e
      have := nd_inj names_nodup e0
      omega
  · intro e; rw [e]
theorem nm_bad (n : Nat) : nm n = Str.ofString "bad" ↔ (n = 0 ∨ 29 ≤ n) := by
  simp only [nm, ofString_iff]
  constructor
  · intro e
    rcases Nat.lt_or_ge n 29 with hn | hn
    · have hn' : n < names.length := hn
      rw [gd_lt hn'] at e
      have e0 : names[n] = names[0]'(by decide) := e
      have := nd_inj names_nodup e0
      exact .inl this
    · exact .inr hn
  · rintro (rfl | e)
    · rfl
    · have hn' : names.length ≤ n := e
      rw [gd_ge hn']
@[simp] theorem nm_ok (n : Nat) : PyData.strOk (nm n) = true := strOk_lit _
theorem nm1 (n : Nat) : nm n = Str.ofString "halt" ↔ n = 1 := nm_iff 1 (by decide) (by decide) n
theorem nm2 (n : Nat) : nm n = Str.ofString "lit" ↔ n = 2 := nm_iff 2 (by decide) (by decide) n
theorem nm3 (n : Nat) : nm n = Str.ofString "load" ↔ n = 3 := nm_iff 3 (by decide) (by decide) n
theorem nm4 (n : Nat) : nm n = Str.ofString "store" ↔ n = 4 := nm_iff 4 (by decide) (by decide) n
theorem nm5 (n : Nat) : nm n = Str.ofString "loadx" ↔ n = 5 := nm_iff 5 (by decide) (by decide) n
theorem nm6 (n : Nat) : nm n = Str.ofString "storex" ↔ n = 6 := nm_iff 6 (by decide) (by decide) n
theorem nm7 (n : Nat) : nm n = Str.ofString "tox" ↔ n = 7 := nm_iff 7 (by decide) (by decide) n
theorem nm8 (n : Nat) : nm n = Str.ofString "index" ↔ n = 8 := nm_iff 8 (by decide) (by decide) n
theorem nm9 (n : Nat) : nm n = Str.ofString "bound" ↔ n = 9 := nm_iff 9 (by decide) (by decide) n
theorem nm10 (n : Nat) : nm n = Str.ofString "within" ↔ n = 10 := nm_iff 10 (by decide) (by decide) n
theorem nm11 (n : Nat) : nm n = Str.ofString "not" ↔ n = 11 := nm_iff 11 (by decide) (by decide) n
theorem nm12 (n : Nat) : nm n = Str.ofString "+" ↔ n = 12 := nm_iff 12 (by decide) (by decide) n
theorem nm13 (n : Nat) : nm n = Str.ofString "-" ↔ n = 13 := nm_iff 13 (by decide) (by decide) n
theorem nm14 (n : Nat) : nm n = Str.ofString "*" ↔ n = 14 := nm_iff 14 (by decide) (by decide) n
theorem nm15 (n : Nat) : nm n = Str.ofString "/" ↔ n = 15 := nm_iff 15 (by decide) (by decide) n
theorem nm16 (n : Nat) : nm n = Str.ofString "mod" ↔ n = 16 := nm_iff 16 (by decide) (by decide) n
theorem nm17 (n : Nat) : nm n = Str.ofString "==" ↔ n = 17 := nm_iff 17 (by decide) (by decide) n
theorem nm18 (n : Nat) : nm n = Str.ofString "!=" ↔ n = 18 := nm_iff 18 (by decide) (by decide) n
theorem nm19 (n : Nat) : nm n = Str.ofString "<" ↔ n = 19 := nm_iff 19 (by decide) (by decide) n
theorem nm20 (n : Nat) : nm n = Str.ofString "<=" ↔ n = 20 := nm_iff 20 (by decide) (by decide) n
theorem nm21 (n : Nat) : nm n = Str.ofString ">" ↔ n = 21 := nm_iff 21 (by decide) (by decide) n
theorem nm22 (n : Nat) : nm n = Str.ofString ">=" ↔ n = 22 := nm_iff 22 (by decide) (by decide) n
theorem nm23 (n : Nat) : nm n = Str.ofString "jump" ↔ n = 23 := nm_iff 23 (by decide) (by decide) n
theorem nm24 (n : Nat) : nm n = Str.ofString "zero" ↔ n = 24 := nm_iff 24 (by decide) (by decide) n
theorem nm25 (n : Nat) : nm n = Str.ofString "some" ↔ n = 25 := nm_iff 25 (by decide) (by decide) n
theorem nm26 (n : Nat) : nm n = Str.ofString "call" ↔ n = 26 := nm_iff 26 (by decide) (by decide) n
theorem nm27 (n : Nat) : nm n = Str.ofString "back" ↔ n = 27 := nm_iff 27 (by decide) (by decide) n
theorem nm28 (n : Nat) : nm n = Str.ofString "tell" ↔ n = 28 := nm_iff 28 (by decide) (by decide) n
theorem rn1 (n : Nat) : Str.ofString "halt" = nm n ↔ n = 1 := eq_comm.trans (nm1 n)
theorem rn2 (n : Nat) : Str.ofString "lit" = nm n ↔ n = 2 := eq_comm.trans (nm2 n)
theorem rn3 (n : Nat) : Str.ofString "load" = nm n ↔ n = 3 := eq_comm.trans (nm3 n)
theorem rn4 (n : Nat) : Str.ofString "store" = nm n ↔ n = 4 := eq_comm.trans (nm4 n)
theorem rn5 (n : Nat) : Str.ofString "loadx" = nm n ↔ n = 5 := eq_comm.trans (nm5 n)
theorem rn6 (n : Nat) : Str.ofString "storex" = nm n ↔ n = 6 := eq_comm.trans (nm6 n)
theorem rn7 (n : Nat) : Str.ofString "tox" = nm n ↔ n = 7 := eq_comm.trans (nm7 n)
theorem rn8 (n : Nat) : Str.ofString "index" = nm n ↔ n = 8 := eq_comm.trans (nm8 n)
theorem rn9 (n : Nat) : Str.ofString "bound" = nm n ↔ n = 9 := eq_comm.trans (nm9 n)
theorem rn10 (n : Nat) : Str.ofString "within" = nm n ↔ n = 10 := eq_comm.trans (nm10 n)
theorem rn11 (n : Nat) : Str.ofString "not" = nm n ↔ n = 11 := eq_comm.trans (nm11 n)
theorem rn12 (n : Nat) : Str.ofString "+" = nm n ↔ n = 12 := eq_comm.trans (nm12 n)
theorem rn13 (n : Nat) : Str.ofString "-" = nm n ↔ n = 13 := eq_comm.trans (nm13 n)
theorem rn14 (n : Nat) : Str.ofString "*" = nm n ↔ n = 14 := eq_comm.trans (nm14 n)
theorem rn15 (n : Nat) : Str.ofString "/" = nm n ↔ n = 15 := eq_comm.trans (nm15 n)
theorem rn16 (n : Nat) : Str.ofString "mod" = nm n ↔ n = 16 := eq_comm.trans (nm16 n)
theorem rn17 (n : Nat) : Str.ofString "==" = nm n ↔ n = 17 := eq_comm.trans (nm17 n)
theorem rn18 (n : Nat) : Str.ofString "!=" = nm n ↔ n = 18 := eq_comm.trans (nm18 n)
theorem rn19 (n : Nat) : Str.ofString "<" = nm n ↔ n = 19 := eq_comm.trans (nm19 n)
theorem rn20 (n : Nat) : Str.ofString "<=" = nm n ↔ n = 20 := eq_comm.trans (nm20 n)
theorem rn21 (n : Nat) : Str.ofString ">" = nm n ↔ n = 21 := eq_comm.trans (nm21 n)
theorem rn22 (n : Nat) : Str.ofString ">=" = nm n ↔ n = 22 := eq_comm.trans (nm22 n)
theorem rn23 (n : Nat) : Str.ofString "jump" = nm n ↔ n = 23 := eq_comm.trans (nm23 n)
theorem rn24 (n : Nat) : Str.ofString "zero" = nm n ↔ n = 24 := eq_comm.trans (nm24 n)
theorem rn25 (n : Nat) : Str.ofString "some" = nm n ↔ n = 25 := eq_comm.trans (nm25 n)
theorem rn26 (n : Nat) : Str.ofString "call" = nm n ↔ n = 26 := eq_comm.trans (nm26 n)
theorem rn27 (n : Nat) : Str.ofString "back" = nm n ↔ n = 27 := eq_comm.trans (nm27 n)
theorem rn28 (n : Nat) : Str.ofString "tell" = nm n ↔ n = 28 := eq_comm.trans (nm28 n)
theorem or11 (n : Nat) : (n = 12 ∨ n = 13 ∨ n = 14 ∨ n = 15 ∨ n = 16 ∨ n = 17 ∨ n = 18 ∨ n = 19 ∨ n = 20 ∨ n = 21 ∨ n = 22) ↔ (12 ≤ n ∧ n ≤ 22) := by omega
theorem inV_names (n : Nat) (ss : List String) : inV (.str (nm n)) ((ss.map fun s => W.str (Str.ofString s)).map toV) = ss.any fun s => decide (nm n = Str.ofString s) := by
  induction ss with
  | nil => rfl
  | cons s r ih =>
    simp only [List.map_cons, inV_cons, toV, eqV_ss, List.any_cons, ih]
    congr 1
    exact decide_eq_decide.mpr eq_comm
/-! ### the steps of the machine -/
theorem t_name (w : Int) (n : Nat) (hq : w / 1024 = (n : Int)) (st : Sto) : m_name_of [.int w] st = .ok (.str (nm n)) st := by
  have l : (1024 : Nat).log2 < 9000 := by decide
  simp only [m_name_of, b_name_of, w_ARGUMENTS]
  by_cases h : n < 29
  · have hat : atI (names.map fun s => W.str (Str.ofString s)) (n : Int) = some (.str (nm n)) := by
      refine atI_nn (by omega) ?_
      have hn' : n < names.length := h
      simp only [Int.toNat_natCast, List.getElem?_map, nm, gd_lt hn', List.getElem?_eq_getElem hn', Option.map_some]
    have hN : w_NAMES = W.tup (names.map fun s => W.str (Str.ofString s)) := rfl
    have hl : names.length = 29 := rfl
    have h' : (n : Int) < 29 := by omega
    simp [hq, l, hN, hl, h', hat]
  · have h2 : nm n = Str.ofString "bad" := (nm_bad n).mpr (.inr (by omega))
    have hN : w_NAMES = W.tup (names.map fun s => W.str (Str.ofString s)) := rfl
    have hl : names.length = 29 := rfl
    have h' : ¬ (n : Int) < 29 := by omega
    simp [hq, l, hN, hl, h', h2]
/-! ### signs -/
def sem (g : Str) (a b : Int) : Option Int :=
  if g = "+" then some ((a + b) % 65536) else if g = "-" then some ((a - b) % 65536) else if g = "*" then some (a * b % 65536)
  else if g = "/" then (if b = 0 then none else some (a / b)) else if g = "mod" then (if b = 0 then none else some (a % b))
  else if g = "==" then some (if a = b then 1 else 0) else if g = "!=" then some (if a = b then 0 else 1)
  else if g = "<" then some (if a < b then 1 else 0) else if g = "<=" then some (if b < a then 0 else 1)
  else if g = ">" then some (if b < a then 1 else 0) else some (if a < b then 0 else 1)
def wOf : Option Int → W
  | none => .non
  | some x => .int x
def signs : List Str := ["+", "-", "*", "/", "mod", "==", "!=", "<", "<=", ">", ">="]
theorem t_wrapped (x : Int) (st : Sto) : m_wrapped [.int x] st = .ok (.int (x % 65536)) st := by
  simp only [m_wrapped, b_wrapped, w_MOST_WORD]
  simp
theorem t_op (g : Str) (hg : g ∈ signs) (a b : Int) (st : Sto) (ha : Word a) (hb : Word b) : m_op [.str g, .int a, .int b] st = .ok (wOf (sem g a b)) st := by
  simp only [signs, List.mem_cons, List.not_mem_nil, or_false] at hg
  have s2 : (2 : Nat) ≤ sizeLine := by decide
  have bs : b.natAbs < 65536 := by have := hb.1; have := hb.2; omega
  have b0 : 0 < b ∨ b = 0 := by have := hb.1; omega
  simp only [m_op, b_op]
  rcases hg with rfl | rfl | rfl | rfl | rfl | rfl | rfl | rfl | rfl | rfl | rfl
  · simp [t_wrapped, sem, wOf]
  · simp [t_wrapped, sem, wOf]
  · simp [t_wrapped, sem, wOf, show b.natAbs < 18446744073709551616 by omega]
  · rcases b0 with h | h
    · simp [sem, wOf, s2, h, lg h (by omega), show b ≠ 0 by omega, inV]
    · simp [sem, wOf, s2, h]
  · rcases b0 with h | h
    · simp [sem, wOf, s2, h, lg h (by omega), show b ≠ 0 by omega]
    · simp [sem, wOf, s2, h]
  · simp [sem, wOf, s2, m_compared, b_compared]
  · simp [sem, wOf, s2, m_compared, b_compared]
  all_goals
    rcases Int.lt_trichotomy a b with h | h | h
    · simp [sem, wOf, s2, m_compared, b_compared, h, show ¬ b < a by omega, show ¬ a = b by omega]
    · subst h; simp [sem, wOf, s2, m_compared, b_compared]
    · simp [sem, wOf, s2, m_compared, b_compared, h, show ¬ a < b by omega, show ¬ a = b by omega]
theorem sem_word (g : Str) (a b x : Int) (ha : Word a) (hb : Word b) (h : sem g a b = some x) : Word x := by
  obtain ⟨a0, a1⟩ := ha
  obtain ⟨b0, b1⟩ := hb
  have hd : b ≠ 0 → 0 ≤ a / b ∧ a / b ≤ a := fun hz => ⟨Int.ediv_nonneg a0 b0, Int.ediv_le_self _ a0⟩
  have hm : b ≠ 0 → 0 ≤ a % b ∧ a % b < b := fun hz => ⟨Int.emod_nonneg _ hz, Int.emod_lt_of_pos _ (by omega)⟩
  simp only [sem] at h
  repeat' split at h
  all_goals first
    | (cases h; exact ⟨by omega, by omega⟩)
    | (cases h; rename_i hz; have := hd hz; exact ⟨by omega, by omega⟩)
    | (cases h; rename_i hz; have := hm hz; exact ⟨by omega, by omega⟩)
    | cases h
theorem ge_nm {n : Nat} (h : 12 ≤ n ∧ n ≤ 22) : nm n ∈ signs := by
  have : n = 12 ∨ n = 13 ∨ n = 14 ∨ n = 15 ∨ n = 16 ∨ n = 17 ∨ n = 18 ∨ n = 19 ∨ n = 20 ∨ n = 21 ∨ n = 22 := by omega
  rcases this with rfl | rfl | rfl | rfl | rfl | rfl | rfl | rfl | rfl | rfl | rfl <;> simp [signs, nm, names]
theorem inS (n : Nat) : (inV (.str (nm n)) [V.str "+", V.str "-", V.str "*", V.str "/", V.str "mod", V.str "==", V.str "!=", V.str "<", V.str "<=", V.str ">", V.str ">="]) = decide (12 ≤ n ∧ n ≤ 22) := by
  have h := inV_names n ["+", "-", "*", "/", "mod", "==", "!=", "<", "<=", ">", ">="]
  simp only [List.map_cons, List.map_nil, toV] at h
  rw [h]
  simp only [List.any_cons, List.any_nil, nm12, nm13, nm14, nm15, nm16, nm17, nm18, nm19, nm20, nm21, nm22]
  rw [Bool.eq_iff_iff]
  simp
  omega
/-! ### what a step comes to -/
def mkN (n a : Nat) (x cnt : Int) (acc data : Int) : Option Str :=
  if n = 0 ∨ 29 ≤ n then some "bad" else if n = 1 then some "done" else if n = 9 ∧ (a : Int) ≤ x then some "place" else if n = 10 ∧ data ≤ x then some "input"
  else if (12 ≤ n ∧ n ≤ 22) ∧ sem (nm n) acc data = none then some "divided" else if n = 28 ∧ cnt = 16 then some "full" else none
def sOf : Option Str → W
  | none => .non
  | some x => .str x
/-- the word read is asked for -/
def Asks (n : Nat) : Prop := n = 3 ∨ n = 5 ∨ n = 8 ∨ n = 10 ∨ n = 27 ∨ (12 ≤ n ∧ n ≤ 22)
end Gn

namespace Gn
open PySem L2 Mi
theorem t_mark (wd : Int) (n a : Nat) (hq : wd / 1024 = (n : Int)) (hr : wd % 1024 = (a : Int)) (pc acc x mk out cnt data : Int) (dw : W) (st : Sto) (hacc : Word acc) (hd : Word data) (hdw : Asks n → dw = .int data) :
    m_mark_of [.tup [.int pc, .int acc, .int x, .int mk, .int out, .int cnt], .int wd, dw] st = .ok (sOf (mkN n a x cnt acc data)) st := by
  have hr2 : wd % 256 = (a : Int) % 256 := by omega
  have hname := t_name wd n hq
  have s11 : (11 : Nat) ≤ sizeLine := by decide
  have s2 : (2 : Nat) ≤ sizeLine := by decide
  have s3 : (3 : Nat) ≤ sizeLine := by decide
  have s5 : (5 : Nat) ≤ sizeLine := by decide
  have s6 : (6 : Nat) ≤ sizeLine := by decide
  simp only [m_mark_of, b_mark_of, w_ARGUMENTS, w_SIGNS, w_MOST_TOLD]
  by_cases h0 : n = 0 ∨ 29 ≤ n
  · simp [hname, nm_bad, nm1, nm2, nm3, nm4, nm5, nm6, nm7, nm8, nm9, nm10, nm11, nm12, nm13, nm14, nm15, nm16, nm17, nm18, nm19, nm20, nm21, nm22, nm23, nm24, nm25, nm26, nm27, nm28, rn1, rn2, rn3, rn4, rn5, rn6, rn7, rn8, rn9, rn10, rn11, rn12, rn13, rn14, rn15, rn16, rn17, rn18, rn19, rn20, rn21, rn22, rn23, rn24, rn25, rn26, rn27, rn28, or11, hr, hr2, hq, s11, s2, s3, s5, s6, h0, mkN, sOf]
  by_cases h1 : n = 1
  · subst h1; simp [hname, nm_bad, nm1, nm2, nm3, nm4, nm5, nm6, nm7, nm8, nm9, nm10, nm11, nm12, nm13, nm14, nm15, nm16, nm17, nm18, nm19, nm20, nm21, nm22, nm23, nm24, nm25, nm26, nm27, nm28, rn1, rn2, rn3, rn4, rn5, rn6, rn7, rn8, rn9, rn10, rn11, rn12, rn13, rn14, rn15, rn16, rn17, rn18, rn19, rn20, rn21, rn22, rn23, rn24, rn25, rn26, rn27, rn28, or11, hr, hr2, hq, s11, s2, s3, s5, s6, mkN, sOf]
  by_cases h9 : n = 9
  · subst h9
    by_cases hx : (a : Int) ≤ x
    · simp [hname, nm_bad, nm1, nm2, nm3, nm4, nm5, nm6, nm7, nm8, nm9, nm10, nm11, nm12, nm13, nm14, nm15, nm16, nm17, nm18, nm19, nm20, nm21, nm22, nm23, nm24, nm25, nm26, nm27, nm28, rn1, rn2, rn3, rn4, rn5, rn6, rn7, rn8, rn9, rn10, rn11, rn12, rn13, rn14, rn15, rn16, rn17, rn18, rn19, rn20, rn21, rn22, rn23, rn24, rn25, rn26, rn27, rn28, or11, hr, hr2, hq, s11, s2, s3, s5, s6, mkN, sOf, hx]
    · simp [hname, nm_bad, nm1, nm2, nm3, nm4, nm5, nm6, nm7, nm8, nm9, nm10, nm11, nm12, nm13, nm14, nm15, nm16, nm17, nm18, nm19, nm20, nm21, nm22, nm23, nm24, nm25, nm26, nm27, nm28, rn1, rn2, rn3, rn4, rn5, rn6, rn7, rn8, rn9, rn10, rn11, rn12, rn13, rn14, rn15, rn16, rn17, rn18, rn19, rn20, rn21, rn22, rn23, rn24, rn25, rn26, rn27, rn28, or11, hr, hr2, hq, s11, s2, s3, s5, s6, mkN, sOf, hx]
  by_cases h10 : n = 10
  · subst h10
    have e := hdw (by simp [Asks])
    subst e
    by_cases hx : data ≤ x
    · simp [hname, nm_bad, nm1, nm2, nm3, nm4, nm5, nm6, nm7, nm8, nm9, nm10, nm11, nm12, nm13, nm14, nm15, nm16, nm17, nm18, nm19, nm20, nm21, nm22, nm23, nm24, nm25, nm26, nm27, nm28, rn1, rn2, rn3, rn4, rn5, rn6, rn7, rn8, rn9, rn10, rn11, rn12, rn13, rn14, rn15, rn16, rn17, rn18, rn19, rn20, rn21, rn22, rn23, rn24, rn25, rn26, rn27, rn28, or11, hr, hr2, hq, s11, s2, s3, s5, s6, mkN, sOf, hx]
    · simp [hname, nm_bad, nm1, nm2, nm3, nm4, nm5, nm6, nm7, nm8, nm9, nm10, nm11, nm12, nm13, nm14, nm15, nm16, nm17, nm18, nm19, nm20, nm21, nm22, nm23, nm24, nm25, nm26, nm27, nm28, rn1, rn2, rn3, rn4, rn5, rn6, rn7, rn8, rn9, rn10, rn11, rn12, rn13, rn14, rn15, rn16, rn17, rn18, rn19, rn20, rn21, rn22, rn23, rn24, rn25, rn26, rn27, rn28, or11, hr, hr2, hq, s11, s2, s3, s5, s6, mkN, sOf, hx]
  by_cases h12 : 12 ≤ n ∧ n ≤ 22
  · have e := hdw (by simp [Asks, h12])
    subst e
    have hop := t_op (nm n) (ge_nm h12) acc data st hacc hd
    have h28 : ¬ n = 28 := by omega
    cases hs : sem (nm n) acc data with
    | none => 
      rw [hs] at hop
      simp [hname, nm_bad, nm1, nm2, nm3, nm4, nm5, nm6, nm7, nm8, nm9, nm10, nm11, nm12, nm13, nm14, nm15, nm16, nm17, nm18, nm19, nm20, nm21, nm22, nm23, nm24, nm25, nm26, nm27, nm28, rn1, rn2, rn3, rn4, rn5, rn6, rn7, rn8, rn9, rn10, rn11, rn12, rn13, rn14, rn15, rn16, rn17, rn18, rn19, rn20, rn21, rn22, rn23, rn24, rn25, rn26, rn27, rn28, or11, hr, hr2, hq, s11, s2, s3, s5, s6, mkN, sOf, h0, h1, h9, h10, h12, h28, hop, hs, wOf]
    | some v =>
      rw [hs] at hop
      simp [hname, nm_bad, nm1, nm2, nm3, nm4, nm5, nm6, nm7, nm8, nm9, nm10, nm11, nm12, nm13, nm14, nm15, nm16, nm17, nm18, nm19, nm20, nm21, nm22, nm23, nm24, nm25, nm26, nm27, nm28, rn1, rn2, rn3, rn4, rn5, rn6, rn7, rn8, rn9, rn10, rn11, rn12, rn13, rn14, rn15, rn16, rn17, rn18, rn19, rn20, rn21, rn22, rn23, rn24, rn25, rn26, rn27, rn28, or11, hr, hr2, hq, s11, s2, s3, s5, s6, mkN, sOf, h0, h1, h9, h10, h12, h28, hop, hs, wOf]
  by_cases h28 : n = 28
  · subst h28
    by_cases hx : cnt = 16
    · simp [hname, nm_bad, nm1, nm2, nm3, nm4, nm5, nm6, nm7, nm8, nm9, nm10, nm11, nm12, nm13, nm14, nm15, nm16, nm17, nm18, nm19, nm20, nm21, nm22, nm23, nm24, nm25, nm26, nm27, nm28, rn1, rn2, rn3, rn4, rn5, rn6, rn7, rn8, rn9, rn10, rn11, rn12, rn13, rn14, rn15, rn16, rn17, rn18, rn19, rn20, rn21, rn22, rn23, rn24, rn25, rn26, rn27, rn28, or11, hr, hr2, hq, s11, s2, s3, s5, s6, mkN, sOf, hx]
    · simp [hname, nm_bad, nm1, nm2, nm3, nm4, nm5, nm6, nm7, nm8, nm9, nm10, nm11, nm12, nm13, nm14, nm15, nm16, nm17, nm18, nm19, nm20, nm21, nm22, nm23, nm24, nm25, nm26, nm27, nm28, rn1, rn2, rn3, rn4, rn5, rn6, rn7, rn8, rn9, rn10, rn11, rn12, rn13, rn14, rn15, rn16, rn17, rn18, rn19, rn20, rn21, rn22, rn23, rn24, rn25, rn26, rn27, rn28, or11, hr, hr2, hq, s11, s2, s3, s5, s6, mkN, sOf, hx]
  simp [hname, nm_bad, nm1, nm2, nm3, nm4, nm5, nm6, nm7, nm8, nm9, nm10, nm11, nm12, nm13, nm14, nm15, nm16, nm17, nm18, nm19, nm20, nm21, nm22, nm23, nm24, nm25, nm26, nm27, nm28, rn1, rn2, rn3, rn4, rn5, rn6, rn7, rn8, rn9, rn10, rn11, rn12, rn13, rn14, rn15, rn16, rn17, rn18, rn19, rn20, rn21, rn22, rn23, rn24, rn25, rn26, rn27, rn28, or11, hr, hr2, hq, s11, s2, s3, s5, s6, mkN, sOf, h0, h1, h9, h10, h12, h28]
def pcB (n a : Nat) (pc acc data : Int) : Int :=
  if n = 23 ∨ (n = 24 ∧ acc = 0) ∨ (n = 25 ∧ acc ≠ 0) then (a : Int) % 256 else if n = 26 then ((a : Int) % 256 + 1) % 256 else if n = 27 then data % 256 else (pc + 1) % 256
theorem t_pc (wd : Int) (n a : Nat) (hq : wd / 1024 = (n : Int)) (hr : wd % 1024 = (a : Int)) (pc acc data : Int) (dw : W) (st : Sto) (hdw : Asks n → dw = .int data) :
    m_pc_behind [.int pc, .int acc, .int wd, dw] st = .ok (.int (pcB n a pc acc data)) st := by
  have hr2 : wd % 256 = (a : Int) % 256 := by omega
  have hname := t_name wd n hq
  have s11 : (11 : Nat) ≤ sizeLine := by decide
  have s2 : (2 : Nat) ≤ sizeLine := by decide
  have s3 : (3 : Nat) ≤ sizeLine := by decide
  have s5 : (5 : Nat) ≤ sizeLine := by decide
  have s6 : (6 : Nat) ≤ sizeLine := by decide
  simp only [m_pc_behind, b_pc_behind, w_PLACES]
  by_cases h23 : n = 23
  · subst h23; simp [hname, nm_bad, nm1, nm2, nm3, nm4, nm5, nm6, nm7, nm8, nm9, nm10, nm11, nm12, nm13, nm14, nm15, nm16, nm17, nm18, nm19, nm20, nm21, nm22, nm23, nm24, nm25, nm26, nm27, nm28, rn1, rn2, rn3, rn4, rn5, rn6, rn7, rn8, rn9, rn10, rn11, rn12, rn13, rn14, rn15, rn16, rn17, rn18, rn19, rn20, rn21, rn22, rn23, rn24, rn25, rn26, rn27, rn28, or11, hr, hr2, hq, s11, s2, s3, s5, s6, pcB]
  by_cases h24 : n = 24
  · subst h24
    by_cases hx : acc = 0
    · simp [hname, nm_bad, nm1, nm2, nm3, nm4, nm5, nm6, nm7, nm8, nm9, nm10, nm11, nm12, nm13, nm14, nm15, nm16, nm17, nm18, nm19, nm20, nm21, nm22, nm23, nm24, nm25, nm26, nm27, nm28, rn1, rn2, rn3, rn4, rn5, rn6, rn7, rn8, rn9, rn10, rn11, rn12, rn13, rn14, rn15, rn16, rn17, rn18, rn19, rn20, rn21, rn22, rn23, rn24, rn25, rn26, rn27, rn28, or11, hr, hr2, hq, s11, s2, s3, s5, s6, pcB, hx]
    · simp [hname, nm_bad, nm1, nm2, nm3, nm4, nm5, nm6, nm7, nm8, nm9, nm10, nm11, nm12, nm13, nm14, nm15, nm16, nm17, nm18, nm19, nm20, nm21, nm22, nm23, nm24, nm25, nm26, nm27, nm28, rn1, rn2, rn3, rn4, rn5, rn6, rn7, rn8, rn9, rn10, rn11, rn12, rn13, rn14, rn15, rn16, rn17, rn18, rn19, rn20, rn21, rn22, rn23, rn24, rn25, rn26, rn27, rn28, or11, hr, hr2, hq, s11, s2, s3, s5, s6, pcB, hx]
  by_cases h25 : n = 25
  · subst h25
    by_cases hx : acc = 0
    · simp [hname, nm_bad, nm1, nm2, nm3, nm4, nm5, nm6, nm7, nm8, nm9, nm10, nm11, nm12, nm13, nm14, nm15, nm16, nm17, nm18, nm19, nm20, nm21, nm22, nm23, nm24, nm25, nm26, nm27, nm28, rn1, rn2, rn3, rn4, rn5, rn6, rn7, rn8, rn9, rn10, rn11, rn12, rn13, rn14, rn15, rn16, rn17, rn18, rn19, rn20, rn21, rn22, rn23, rn24, rn25, rn26, rn27, rn28, or11, hr, hr2, hq, s11, s2, s3, s5, s6, pcB, hx]
    · simp [hname, nm_bad, nm1, nm2, nm3, nm4, nm5, nm6, nm7, nm8, nm9, nm10, nm11, nm12, nm13, nm14, nm15, nm16, nm17, nm18, nm19, nm20, nm21, nm22, nm23, nm24, nm25, nm26, nm27, nm28, rn1, rn2, rn3, rn4, rn5, rn6, rn7, rn8, rn9, rn10, rn11, rn12, rn13, rn14, rn15, rn16, rn17, rn18, rn19, rn20, rn21, rn22, rn23, rn24, rn25, rn26, rn27, rn28, or11, hr, hr2, hq, s11, s2, s3, s5, s6, pcB, hx]
  by_cases h26 : n = 26
  · subst h26; simp [hname, nm_bad, nm1, nm2, nm3, nm4, nm5, nm6, nm7, nm8, nm9, nm10, nm11, nm12, nm13, nm14, nm15, nm16, nm17, nm18, nm19, nm20, nm21, nm22, nm23, nm24, nm25, nm26, nm27, nm28, rn1, rn2, rn3, rn4, rn5, rn6, rn7, rn8, rn9, rn10, rn11, rn12, rn13, rn14, rn15, rn16, rn17, rn18, rn19, rn20, rn21, rn22, rn23, rn24, rn25, rn26, rn27, rn28, or11, hr, hr2, hq, s11, s2, s3, s5, s6, pcB]
  by_cases h27 : n = 27
  · have e := hdw (by simp [Asks, h27])
    subst e
    subst h27; simp [hname, nm_bad, nm1, nm2, nm3, nm4, nm5, nm6, nm7, nm8, nm9, nm10, nm11, nm12, nm13, nm14, nm15, nm16, nm17, nm18, nm19, nm20, nm21, nm22, nm23, nm24, nm25, nm26, nm27, nm28, rn1, rn2, rn3, rn4, rn5, rn6, rn7, rn8, rn9, rn10, rn11, rn12, rn13, rn14, rn15, rn16, rn17, rn18, rn19, rn20, rn21, rn22, rn23, rn24, rn25, rn26, rn27, rn28, or11, hr, hr2, hq, s11, s2, s3, s5, s6, pcB]
  simp [hname, nm_bad, nm1, nm2, nm3, nm4, nm5, nm6, nm7, nm8, nm9, nm10, nm11, nm12, nm13, nm14, nm15, nm16, nm17, nm18, nm19, nm20, nm21, nm22, nm23, nm24, nm25, nm26, nm27, nm28, rn1, rn2, rn3, rn4, rn5, rn6, rn7, rn8, rn9, rn10, rn11, rn12, rn13, rn14, rn15, rn16, rn17, rn18, rn19, rn20, rn21, rn22, rn23, rn24, rn25, rn26, rn27, rn28, or11, hr, hr2, hq, s11, s2, s3, s5, s6, pcB, h23, h24, h25, h26, h27]
def accB (n a : Nat) (acc data : Int) : Int :=
  if n = 2 then (a : Int) else if n = 3 ∨ n = 5 then data else if n = 11 then (if acc = 0 then 1 else 0) else if 12 ≤ n ∧ n ≤ 22 then (sem (nm n) acc data).getD 0 else acc
theorem t_acc (n a : Nat) (acc data : Int) (dw : W) (st : Sto) (hacc : Word acc) (hd : Word data) (hdw : Asks n → dw = .int data) (hs : 12 ≤ n ∧ n ≤ 22 → sem (nm n) acc data ≠ none) :
    m_acc_behind [.int acc, .str (nm n), .int (a : Int), dw] st = .ok (.int (accB n a acc data)) st := by
  have s11 : (11 : Nat) ≤ sizeLine := by decide
  have s2 : (2 : Nat) ≤ sizeLine := by decide
  simp only [m_acc_behind, b_acc_behind, w_SIGNS]
  by_cases h2 : n = 2
  · subst h2; simp [nm_bad, nm1, nm2, nm3, nm4, nm5, nm6, nm7, nm8, nm9, nm10, nm11, nm12, nm13, nm14, nm15, nm16, nm17, nm18, nm19, nm20, nm21, nm22, nm23, nm24, nm25, nm26, nm27, nm28, rn1, rn2, rn3, rn4, rn5, rn6, rn7, rn8, rn9, rn10, rn11, rn12, rn13, rn14, rn15, rn16, rn17, rn18, rn19, rn20, rn21, rn22, rn23, rn24, rn25, rn26, rn27, rn28, or11, accB, s2, s11]
  by_cases h3 : n = 3
  · have e := hdw (by simp [Asks, h3])
    subst e
    subst h3; simp [nm_bad, nm1, nm2, nm3, nm4, nm5, nm6, nm7, nm8, nm9, nm10, nm11, nm12, nm13, nm14, nm15, nm16, nm17, nm18, nm19, nm20, nm21, nm22, nm23, nm24, nm25, nm26, nm27, nm28, rn1, rn2, rn3, rn4, rn5, rn6, rn7, rn8, rn9, rn10, rn11, rn12, rn13, rn14, rn15, rn16, rn17, rn18, rn19, rn20, rn21, rn22, rn23, rn24, rn25, rn26, rn27, rn28, or11, accB, s2, s11, ]
  by_cases h5 : n = 5
  · have e := hdw (by simp [Asks, h5])
    subst e
    subst h5; simp [nm_bad, nm1, nm2, nm3, nm4, nm5, nm6, nm7, nm8, nm9, nm10, nm11, nm12, nm13, nm14, nm15, nm16, nm17, nm18, nm19, nm20, nm21, nm22, nm23, nm24, nm25, nm26, nm27, nm28, rn1, rn2, rn3, rn4, rn5, rn6, rn7, rn8, rn9, rn10, rn11, rn12, rn13, rn14, rn15, rn16, rn17, rn18, rn19, rn20, rn21, rn22, rn23, rn24, rn25, rn26, rn27, rn28, or11, accB, s2, s11]
  by_cases h11 : n = 11
  · subst h11; simp [nm_bad, nm1, nm2, nm3, nm4, nm5, nm6, nm7, nm8, nm9, nm10, nm11, nm12, nm13, nm14, nm15, nm16, nm17, nm18, nm19, nm20, nm21, nm22, nm23, nm24, nm25, nm26, nm27, nm28, rn1, rn2, rn3, rn4, rn5, rn6, rn7, rn8, rn9, rn10, rn11, rn12, rn13, rn14, rn15, rn16, rn17, rn18, rn19, rn20, rn21, rn22, rn23, rn24, rn25, rn26, rn27, rn28, or11, accB, s2, s11]
  by_cases h12 : 12 ≤ n ∧ n ≤ 22
  · have e := hdw (by simp [Asks, h12])
    subst e
    have hop := t_op (nm n) (ge_nm h12) acc data st hacc hd
    cases hs' : sem (nm n) acc data with
    | none => exact absurd hs' (hs h12)
    | some v =>
      rw [hs'] at hop
      simp [nm_bad, nm1, nm2, nm3, nm4, nm5, nm6, nm7, nm8, nm9, nm10, nm11, nm12, nm13, nm14, nm15, nm16, nm17, nm18, nm19, nm20, nm21, nm22, nm23, nm24, nm25, nm26, nm27, nm28, rn1, rn2, rn3, rn4, rn5, rn6, rn7, rn8, rn9, rn10, rn11, rn12, rn13, rn14, rn15, rn16, rn17, rn18, rn19, rn20, rn21, rn22, rn23, rn24, rn25, rn26, rn27, rn28, or11, accB, s2, s11, h2, h3, h5, h11, h12, hop, hs', wOf]
  simp [nm_bad, nm1, nm2, nm3, nm4, nm5, nm6, nm7, nm8, nm9, nm10, nm11, nm12, nm13, nm14, nm15, nm16, nm17, nm18, nm19, nm20, nm21, nm22, nm23, nm24, nm25, nm26, nm27, nm28, rn1, rn2, rn3, rn4, rn5, rn6, rn7, rn8, rn9, rn10, rn11, rn12, rn13, rn14, rn15, rn16, rn17, rn18, rn19, rn20, rn21, rn22, rn23, rn24, rn25, rn26, rn27, rn28, or11, accB, s2, s11, h2, h3, h5, h11, h12]
end Gn

namespace Gn
open PySem L2 Mi
/-! ### what the program's step gives -/
def mkI (s : Str) : Int := if s = "done" then 1 else if s = "divided" then 2 else if s = "place" then 3 else if s = "input" then 4 else if s = "full" then 5 else 6
theorem fi1 : z_MARKS.findIdx? (fun x => decide (x = Str.ofString "done")) = some 1 := rfl
theorem fi2 : z_MARKS.findIdx? (fun x => decide (x = Str.ofString "divided")) = some 2 := rfl
theorem fi3 : z_MARKS.findIdx? (fun x => decide (x = Str.ofString "place")) = some 3 := rfl
theorem fi4 : z_MARKS.findIdx? (fun x => decide (x = Str.ofString "input")) = some 4 := rfl
theorem fi5 : z_MARKS.findIdx? (fun x => decide (x = Str.ofString "full")) = some 5 := rfl
theorem fi6 : z_MARKS.findIdx? (fun x => decide (x = Str.ofString "bad")) = some 6 := rfl
theorem t_halted (s : Str) (hs : s = "done" ∨ s = "divided" ∨ s = "place" ∨ s = "input" ∨ s = "full" ∨ s = "bad") (a b c d e f : W) (st : Sto) :
    m_halted [.tup [a, b, c, d, e, f], .str s] st = .ok (.tup [a, b, c, .int (mkI s), e, f]) st := by
  have s6 : (6 : Nat) ≤ sizeLine := by decide
  simp only [m_halted, b_halted]
  rcases hs with rfl | rfl | rfl | rfl | rfl | rfl <;> simp [s6, fi1, fi2, fi3, fi4, fi5, fi6, mkI]
theorem mkN_in {n a : Nat} {x cnt acc data : Int} {s : Str} (h : mkN n a x cnt acc data = some s) : s = "done" ∨ s = "divided" ∨ s = "place" ∨ s = "input" ∨ s = "full" ∨ s = "bad" := by
  simp only [mkN] at h
  repeat' split at h
  all_goals first
    | (cases h; simp)
    | cases h
def xB (n : Nat) (acc x data : Int) : Int := if n = 7 then acc else if n = 8 then data else x
def outB (m : Int) (n : Nat) (acc out : Int) : Int := if n = 28 then foldN m out (leafN m acc) else out
def cntB (n : Nat) (cnt : Int) : Int := if n = 28 then cnt + 1 else cnt
def wrB (n : Nat) (pc acc : Int) : Option Int := if n = 4 ∨ n = 6 then some acc else if n = 26 then some ((pc + 1) % 256) else none
def doneW (m : Int) (n a : Nat) (pc acc x out cnt data : Int) : W := match mkN n a x cnt acc data with
  | some s => .tup [.tup [.int pc, .int acc, .int x, .int (mkI s), .int out, .int cnt], .non]
  | none => .tup [.tup [.int (pcB n a pc acc data), .int (accB n a acc data), .int (xB n acc x data), .int 0, .int (outB m n acc out), .int (cntB n cnt)], wOf (wrB n pc acc)]
theorem t_done {m : Int} {st : Sto} {j : Nat} (hm : 0 < m) (hm1 : m < 18446744073709551616) (h : DigAt m st j) (wd : Int) (n a : Nat) (hq : wd / 1024 = (n : Int)) (hr : wd % 1024 = (a : Int)) (pc acc x mk out cnt data : Int) (dw : W) (hacc : Word acc) (hd : Word data) (ho : 0 ≤ out ∧ out < m) (hdw : Asks n → dw = .int data) :
    m_done_by [.ref j, .tup [.int pc, .int acc, .int x, .int mk, .int out, .int cnt], .int wd, dw] st = .ok (doneW m n a pc acc x out cnt data) st := by
  have hname := t_name wd n hq
  have s2 : (2 : Nat) ≤ sizeLine := by decide
  have s6 : (6 : Nat) ≤ sizeLine := by decide
  have hmark := fun st => t_mark wd n a hq hr pc acc x mk out cnt data dw st hacc hd hdw
  have hpc := fun st => t_pc wd n a hq hr pc acc data dw st hdw
  simp only [m_done_by, b_done_by, w_PLACES, w_ARGUMENTS]
  cases hmk : mkN n a x cnt acc data with
  | some s =>
    rw [hmk] at hmark
    simp [hmark, sOf, t_halted s (mkN_in hmk), s2, doneW, hmk]
  | none =>
    rw [hmk] at hmark
    have hns : 12 ≤ n ∧ n ≤ 22 → sem (nm n) acc data ≠ none := fun h12 e => by
      simp only [mkN] at hmk
      simp [h12, e, show ¬ (n = 0 ∨ 29 ≤ n) by omega, show ¬ n = 1 by omega, show ¬ n = 9 by omega, show ¬ n = 10 by omega] at hmk
    have hac := fun st => t_acc n a acc data dw st hacc hd hdw hns
    by_cases h4 : n = 4 ∨ n = 6
    · have g1 : ¬ n = 26 := by omega
      have g2 : ¬ n = 7 := by omega
      have g3 : ¬ n = 8 := by omega
      have g4 : ¬ n = 28 := by omega
      simp [hmark, sOf, hname, nm_bad, nm1, nm2, nm3, nm4, nm5, nm6, nm7, nm8, nm9, nm10, nm11, nm12, nm13, nm14, nm15, nm16, nm17, nm18, nm19, nm20, nm21, nm22, nm23, nm24, nm25, nm26, nm27, nm28, rn1, rn2, rn3, rn4, rn5, rn6, rn7, rn8, rn9, rn10, rn11, rn12, rn13, rn14, rn15, rn16, rn17, rn18, rn19, rn20, rn21, rn22, rn23, rn24, rn25, rn26, rn27, rn28, or11, h4, g1, g2, g3, g4, hpc, hac, hr, s2, s6, doneW, hmk, xB, outB, cntB, wrB, wOf]
    by_cases h26 : n = 26
    · subst h26
      simp [hmark, sOf, hname, nm_bad, nm1, nm2, nm3, nm4, nm5, nm6, nm7, nm8, nm9, nm10, nm11, nm12, nm13, nm14, nm15, nm16, nm17, nm18, nm19, nm20, nm21, nm22, nm23, nm24, nm25, nm26, nm27, nm28, rn1, rn2, rn3, rn4, rn5, rn6, rn7, rn8, rn9, rn10, rn11, rn12, rn13, rn14, rn15, rn16, rn17, rn18, rn19, rn20, rn21, rn22, rn23, rn24, rn25, rn26, rn27, rn28, or11, hpc, hac, hr, s2, s6, doneW, hmk, xB, outB, cntB, wrB, wOf]
    by_cases h7 : n = 7
    · subst h7
      simp [hmark, sOf, hname, nm_bad, nm1, nm2, nm3, nm4, nm5, nm6, nm7, nm8, nm9, nm10, nm11, nm12, nm13, nm14, nm15, nm16, nm17, nm18, nm19, nm20, nm21, nm22, nm23, nm24, nm25, nm26, nm27, nm28, rn1, rn2, rn3, rn4, rn5, rn6, rn7, rn8, rn9, rn10, rn11, rn12, rn13, rn14, rn15, rn16, rn17, rn18, rn19, rn20, rn21, rn22, rn23, rn24, rn25, rn26, rn27, rn28, or11, hpc, hac, hr, s2, s6, doneW, hmk, xB, outB, cntB, wrB, wOf]
    by_cases h8 : n = 8
    · have e := hdw (by simp [Asks, h8])
      subst e
      subst h8
      simp [hmark, sOf, hname, nm_bad, nm1, nm2, nm3, nm4, nm5, nm6, nm7, nm8, nm9, nm10, nm11, nm12, nm13, nm14, nm15, nm16, nm17, nm18, nm19, nm20, nm21, nm22, nm23, nm24, nm25, nm26, nm27, nm28, rn1, rn2, rn3, rn4, rn5, rn6, rn7, rn8, rn9, rn10, rn11, rn12, rn13, rn14, rn15, rn16, rn17, rn18, rn19, rn20, rn21, rn22, rn23, rn24, rn25, rn26, rn27, rn28, or11, hpc, hac, hr, s2, s6, doneW, hmk, xB, outB, cntB, wrB, wOf]
    by_cases h28 : n = 28
    · subst h28
      have f1 := fun w => t_leaf hm h w
      have f2 := t_fold hm hm1 h out (leafN m acc) ho ⟨Int.emod_nonneg _ (by omega), Int.emod_lt_of_pos _ hm⟩
      obtain ⟨_, ho, b, rfl⟩ := h
      obtain ⟨hi, hg⟩ := List.getElem?_eq_some_iff.mp ho
      have l3 : List.lookup (Str.ofString "leaf") [(Str.ofString "_bits", W.int b), (Str.ofString "_modulus", W.int m), (Str.ofString "_book", W.non)] = none := rfl
      have l4 : List.lookup (Str.ofString "fold") [(Str.ofString "_bits", W.int b), (Str.ofString "_modulus", W.int m), (Str.ofString "_book", W.non)] = none := rfl
      simp [hi, hg, l3, l4, f1, f2, hmark, sOf, hname, nm_bad, nm1, nm2, nm3, nm4, nm5, nm6, nm7, nm8, nm9, nm10, nm11, nm12, nm13, nm14, nm15, nm16, nm17, nm18, nm19, nm20, nm21, nm22, nm23, nm24, nm25, nm26, nm27, nm28, rn1, rn2, rn3, rn4, rn5, rn6, rn7, rn8, rn9, rn10, rn11, rn12, rn13, rn14, rn15, rn16, rn17, rn18, rn19, rn20, rn21, rn22, rn23, rn24, rn25, rn26, rn27, rn28, or11, hpc, hac, hr, s2, s6, doneW, hmk, xB, outB, cntB, wrB, wOf]
    simp [hmark, sOf, hname, nm_bad, nm1, nm2, nm3, nm4, nm5, nm6, nm7, nm8, nm9, nm10, nm11, nm12, nm13, nm14, nm15, nm16, nm17, nm18, nm19, nm20, nm21, nm22, nm23, nm24, nm25, nm26, nm27, nm28, rn1, rn2, rn3, rn4, rn5, rn6, rn7, rn8, rn9, rn10, rn11, rn12, rn13, rn14, rn15, rn16, rn17, rn18, rn19, rn20, rn21, rn22, rn23, rn24, rn25, rn26, rn27, rn28, or11, h4, h26, h7, h8, h28, hpc, hac, hr, s2, s6, doneW, hmk, xB, outB, cntB, wrB, wOf]
instance (n : Nat) : Decidable (Asks n) := by unfold Asks; infer_instance
/-! ### what a word asks for -/
def plB (n a : Nat) (x : Int) : Int := if n = 5 ∨ n = 6 then ((a : Int) % 256 + x) % 256 else (a : Int) % 256
def daW (n a : Nat) (x : Int) : W := if n = 4 ∨ n = 6 ∨ n = 26 then .tup [.int (plB n a x), .bl true] else if Asks n then .tup [.int (plB n a x), .bl false] else .non
theorem t_data_of (wd : Int) (n a : Nat) (hq : wd / 1024 = (n : Int)) (hr : wd % 1024 = (a : Int)) (p q r s t : W) (x : Int) (st : Sto) :
    m_data_of [.tup [p, q, .int x, r, s, t], .int wd] st = .ok (daW n a x) st := by
  have hname := t_name wd n hq
  have hr2 : wd % 256 = (a : Int) % 256 := by omega
  have s2 : (2 : Nat) ≤ sizeLine := by decide
  have x6 : atI [p, q, W.int x, r, s, t] 2 = some (.int x) := rfl
  simp only [m_data_of, b_data_of, w_PLACES, w_CHANGERS, w_READERS, w_SIGNS]
  by_cases h5 : n = 5
  · subst h5; simp [hname, nm_bad, nm1, nm2, nm3, nm4, nm5, nm6, nm7, nm8, nm9, nm10, nm11, nm12, nm13, nm14, nm15, nm16, nm17, nm18, nm19, nm20, nm21, nm22, nm23, nm24, nm25, nm26, nm27, nm28, rn1, rn2, rn3, rn4, rn5, rn6, rn7, rn8, rn9, rn10, rn11, rn12, rn13, rn14, rn15, rn16, rn17, rn18, rn19, rn20, rn21, rn22, rn23, rn24, rn25, rn26, rn27, rn28, or11, hr2, s2, x6, daW, plB, Asks]
  by_cases h6 : n = 6
  · subst h6; simp [hname, nm_bad, nm1, nm2, nm3, nm4, nm5, nm6, nm7, nm8, nm9, nm10, nm11, nm12, nm13, nm14, nm15, nm16, nm17, nm18, nm19, nm20, nm21, nm22, nm23, nm24, nm25, nm26, nm27, nm28, rn1, rn2, rn3, rn4, rn5, rn6, rn7, rn8, rn9, rn10, rn11, rn12, rn13, rn14, rn15, rn16, rn17, rn18, rn19, rn20, rn21, rn22, rn23, rn24, rn25, rn26, rn27, rn28, or11, hr2, s2, x6, daW, plB, Asks]
  by_cases h4 : n = 4
  · subst h4; simp [hname, nm_bad, nm1, nm2, nm3, nm4, nm5, nm6, nm7, nm8, nm9, nm10, nm11, nm12, nm13, nm14, nm15, nm16, nm17, nm18, nm19, nm20, nm21, nm22, nm23, nm24, nm25, nm26, nm27, nm28, rn1, rn2, rn3, rn4, rn5, rn6, rn7, rn8, rn9, rn10, rn11, rn12, rn13, rn14, rn15, rn16, rn17, rn18, rn19, rn20, rn21, rn22, rn23, rn24, rn25, rn26, rn27, rn28, or11, hr2, s2, x6, daW, plB, Asks]
  by_cases h26 : n = 26
  · subst h26; simp [hname, nm_bad, nm1, nm2, nm3, nm4, nm5, nm6, nm7, nm8, nm9, nm10, nm11, nm12, nm13, nm14, nm15, nm16, nm17, nm18, nm19, nm20, nm21, nm22, nm23, nm24, nm25, nm26, nm27, nm28, rn1, rn2, rn3, rn4, rn5, rn6, rn7, rn8, rn9, rn10, rn11, rn12, rn13, rn14, rn15, rn16, rn17, rn18, rn19, rn20, rn21, rn22, rn23, rn24, rn25, rn26, rn27, rn28, or11, hr2, s2, x6, daW, plB, Asks]
  by_cases hA : n = 3 ∨ n = 8 ∨ n = 10 ∨ n = 27
  · have hA2 : Asks n := by unfold Asks; omega
    have h8 : n = 3 ∨ n = 5 ∨ n = 8 ∨ n = 10 ∨ n = 27 := by omega
    simp [hname, nm_bad, nm1, nm2, nm3, nm4, nm5, nm6, nm7, nm8, nm9, nm10, nm11, nm12, nm13, nm14, nm15, nm16, nm17, nm18, nm19, nm20, nm21, nm22, nm23, nm24, nm25, nm26, nm27, nm28, rn1, rn2, rn3, rn4, rn5, rn6, rn7, rn8, rn9, rn10, rn11, rn12, rn13, rn14, rn15, rn16, rn17, rn18, rn19, rn20, rn21, rn22, rn23, rn24, rn25, rn26, rn27, rn28, or11, hr2, s2, x6, daW, plB, hA2, h5, h6, h4, h26, hA]
  by_cases h12 : 12 ≤ n ∧ n ≤ 22
  · have hA2 : Asks n := by unfold Asks; omega
    simp [hname, nm_bad, nm1, nm2, nm3, nm4, nm5, nm6, nm7, nm8, nm9, nm10, nm11, nm12, nm13, nm14, nm15, nm16, nm17, nm18, nm19, nm20, nm21, nm22, nm23, nm24, nm25, nm26, nm27, nm28, rn1, rn2, rn3, rn4, rn5, rn6, rn7, rn8, rn9, rn10, rn11, rn12, rn13, rn14, rn15, rn16, rn17, rn18, rn19, rn20, rn21, rn22, rn23, rn24, rn25, rn26, rn27, rn28, or11, hr2, s2, x6, daW, plB, hA2, h5, h6, h4, h26, hA, h12]
  have hA2 : ¬ Asks n := by unfold Asks; omega
  simp [hname, nm_bad, nm1, nm2, nm3, nm4, nm5, nm6, nm7, nm8, nm9, nm10, nm11, nm12, nm13, nm14, nm15, nm16, nm17, nm18, nm19, nm20, nm21, nm22, nm23, nm24, nm25, nm26, nm27, nm28, rn1, rn2, rn3, rn4, rn5, rn6, rn7, rn8, rn9, rn10, rn11, rn12, rn13, rn14, rn15, rn16, rn17, rn18, rn19, rn20, rn21, rn22, rn23, rn24, rn25, rn26, rn27, rn28, or11, hr2, s2, x6, daW, plB, hA2, h5, h6, h4, h26, hA, h12]
end Gn

namespace Gn
open PySem L2 Mi
/-! ### a machine made -/
theorem MemAt.set {m : Int} {j e w r : Nat} {rs : List Nat} {words : List Int} {st : Sto} (h : MemAt m j e w r rs words st) {M : Nat} {o : Ob} (hM : M ∉ e :: w :: r :: rs) : MemAt m j e w r rs words (st.set M o) := by
  have ne : ∀ i ∈ e :: w :: r :: rs, M ≠ i := fun i hi z => hM (by rw [z]; exact hi)
  refine ⟨by rw [List.getElem?_set_ne (ne e (by simp))]; exact h.ob, by rw [List.getElem?_set_ne (ne w (by simp))]; exact h.wo, by rw [List.getElem?_set_ne (ne r (by simp))]; exact h.ro, h.rl, fun k a ha => ?_, h.nd, h.wl⟩
  rw [List.getElem?_set_ne (ne a (by simp [List.mem_of_getElem? ha]))]
  exact h.rw k a ha
theorem MemK.mem {m : Int} {S : Sto} {j : Nat} {words : List Int} {st : Sto} (h : MemK m S j words 8 st) (hl : words.length = 256) : MemAt m j S.length (S.length + 1) (S.length + 3) ((List.range 9).map (ad S.length)) words st := by
  refine ⟨h.ob, h.wo, ?_, by simp, fun k a ha => ?_, ?_, hl⟩
  · rw [h.ro, List.map_map]; rfl
  · have hk : k < 9 := by have := (List.getElem?_eq_some_iff.mp ha).1; simpa using this
    rw [List.getElem?_map, List.getElem?_range hk] at ha
    cases ha
    exact h.rw k (by omega)
  · have hr : List.range 9 = [0, 1, 2, 3, 4, 5, 6, 7, 8] := rfl
    rw [hr]
    simp [ad]
    omega
abbrev machF (j e : Nat) (regs told : W) : Fl := [("_digests", .ref j), ("_registers", regs), ("_memory", .ref e), ("_told", told)]
theorem t_machinit {m : Int} {S : Sto} {j : Nat} {words : List Int} (regs : W) (hm : 0 < m) (hm1 : m < 18446744073709551616) (hl : words.length = 256) (hDS : DigAt m S j) :
    ∃ st' T, m_Machine_init [.ref S.length, .ref j, regs, .tup (words.map W.int)] (S ++ [.ins 3 []]) = .ok .non st' ∧ st' = S ++ T ∧ st'[S.length]? = some (.ins 3 (machF j (S.length + 1) regs (.tup []))) ∧
      MemAt m j (S.length + 1) (S.length + 2) (S.length + 4) ((List.range 9).map (ad (S.length + 1))) words st' := by
  have hD1 : DigAt m (S ++ [Ob.ins 3 [("_digests", .ref j), ("_registers", regs)]]) j := hDS.app
  obtain ⟨s1, e1, h1⟩ := t_meminit hm hm1 hl hD1
  have hm2 := h1.mem hl
  obtain ⟨T, hT, hTl⟩ := h1.pre
  simp only [List.length_append, List.length_cons, List.length_nil, Nat.zero_add] at hm2 e1
  have ho := h1.ob
  simp only [List.length_append, List.length_cons, List.length_nil, Nat.zero_add] at ho
  rw [List.append_assoc] at e1
  simp only [List.cons_append, List.nil_append] at e1
  have hM : s1[S.length]? = some (Ob.ins 3 [("_digests", .ref j), ("_registers", regs)]) := by rw [hT, List.append_assoc]; simp
  have hni : ∀ o, MemAt m j (S.length + 1) (S.length + 1 + 1) (S.length + 1 + 3) ((List.range 9).map (ad (S.length + 1))) words (s1.set S.length o) := fun o => hm2.set (by
    intro z
    have hr : List.range 9 = [0, 1, 2, 3, 4, 5, 6, 7, 8] := rfl
    rw [hr] at z
    simp [ad] at z
    omega)
  refine ⟨s1.set S.length (Ob.ins 3 (machF j (S.length + 1) regs (.tup []))), ([Ob.ins 3 [("_digests", .ref j), ("_registers", regs)]] ++ T).set 0 (Ob.ins 3 (machF j (S.length + 1) regs (.tup []))), ?_, ?_, ?_, hni _⟩
  · have sl : (0 : Nat) ≤ sizeLine := by decide
    have hML := (List.getElem?_eq_some_iff.mp hM).1
    have h2 : ∀ o, (s1.set S.length o)[S.length]? = some o := fun o => List.getElem?_set_self hML
    simp only [m_Machine_init, b_Machine_init]
    simp [putW, e1, ho, hM, h2, machF]
  · rw [hT, List.append_assoc]
    simp
  · rw [List.getElem?_set_self (List.getElem?_eq_some_iff.mp hM).1]
end Gn

namespace Gn
open PySem L2 Mi
/-! ### the machine's state -/
structure Rg where
  pc : Int
  acc : Int
  x : Int
  mrk : Int
  out : Int
  cnt : Int
abbrev rgW (g : Rg) : W := .tup [.int g.pc, .int g.acc, .int g.x, .int g.mrk, .int g.out, .int g.cnt]
structure Good (m : Int) (g : Rg) : Prop where
  pc : 0 ≤ g.pc ∧ g.pc < 256
  acc : Word g.acc
  x : Word g.x
  mrk : 0 ≤ g.mrk ∧ g.mrk < 7
  out : 0 ≤ g.out ∧ g.out < m
  cnt : 0 ≤ g.cnt ∧ g.cnt < 17
structure Mach (m : Int) (j M e w r : Nat) (rs : List Nat) (g : Rg) (told words : List Int) (st : Sto) : Prop where
  mo : st[M]? = some (.ins 3 (machF j e (rgW g) (.tup (told.map W.int))))
  me : MemAt m j e w r rs words st
  dg : DigAt m st j
  nm : M ∉ e :: w :: r :: rs
  go : Good m g
  ww : ∀ x ∈ words, Word x
  tl : (told.length : Int) ≤ g.cnt
section
variable {m : Int} {j M e w r : Nat} {rs : List Nat} {g : Rg} {told words : List Int} {st : Sto} (h : Mach m j M e w r rs g told words st)
include h
theorem t_memword (p : Nat) (hp : p < 256) : m_Memory_word [.ref e, .int (p : Int)] st = .ok (.int (gt words p)) st := by
  obtain ⟨hei, heg⟩ := List.getElem?_eq_some_iff.mp h.me.ob
  obtain ⟨hwi, hwg⟩ := List.getElem?_eq_some_iff.mp h.me.wo
  have l1 : List.lookup (Str.ofString "_words") [(Str.ofString "_digests", W.ref j), (Str.ofString "_words", W.ref w), (Str.ofString "_rows", W.ref r)] = some (W.ref w) := rfl
  have at1 := atI_ints words p (by rw [h.me.wl]; exact hp)
  simp only [m_Memory_word, b_Memory_word]
  simp [hei, heg, l1, hwi, hwg, at1]
theorem t_mregs : m_Machine_registers [.ref M] st = .ok (rgW g) st := by
  obtain ⟨hi, hg⟩ := List.getElem?_eq_some_iff.mp h.mo
  have l1 : List.lookup (Str.ofString "_registers") (machF j e (rgW g) (.tup (told.map W.int))) = some (rgW g) := rfl
  simp only [m_Machine_registers, b_Machine_registers]
  simp [hi, hg, l1]
theorem t_mtold : m_Machine_told [.ref M] st = .ok (.tup (told.map W.int)) st := by
  obtain ⟨hi, hg⟩ := List.getElem?_eq_some_iff.mp h.mo
  have l1 : List.lookup (Str.ofString "_told") (machF j e (rgW g) (.tup (told.map W.int))) = some (.tup (told.map W.int)) := rfl
  simp only [m_Machine_told, b_Machine_told]
  simp [hi, hg, l1]
theorem t_memwords : m_Memory_words [.ref e] st = .ok (.tup (words.map W.int)) st := by
  obtain ⟨hei, heg⟩ := List.getElem?_eq_some_iff.mp h.me.ob
  obtain ⟨hwi, hwg⟩ := List.getElem?_eq_some_iff.mp h.me.wo
  have l1 : List.lookup (Str.ofString "_words") [(Str.ofString "_digests", W.ref j), (Str.ofString "_words", W.ref w), (Str.ofString "_rows", W.ref r)] = some (W.ref w) := rfl
  simp only [m_Memory_words, b_Memory_words]
  simp [hei, heg, l1, hwi, hwg]
theorem t_mwords : m_Machine_words [.ref M] st = .ok (.tup (words.map W.int)) st := by
  obtain ⟨hi, hg⟩ := List.getElem?_eq_some_iff.mp h.mo
  obtain ⟨hei, heg⟩ := List.getElem?_eq_some_iff.mp h.me.ob
  have l1 : List.lookup (Str.ofString "_memory") (machF j e (rgW g) (.tup (told.map W.int))) = some (.ref e) := rfl
  have l2 : List.lookup (Str.ofString "words") (memF j w r) = none := rfl
  simp only [m_Machine_words, b_Machine_words]
  simp [hi, hg, l1, hei, heg, l2, t_memwords h]
theorem t_memroot : m_Memory_root [.ref e] st = .ok (.int (gt (lv m words 8) 0)) st := by
  obtain ⟨hei, heg⟩ := List.getElem?_eq_some_iff.mp h.me.ob
  obtain ⟨hri, hrg⟩ := List.getElem?_eq_some_iff.mp h.me.ro
  have hl8 : 8 < rs.length := by rw [h.me.rl]; omega
  have hrow := h.me.rw 8 rs[8] (List.getElem?_eq_getElem hl8)
  obtain ⟨hai, hag⟩ := List.getElem?_eq_some_iff.mp hrow
  have l1 : List.lookup (Str.ofString "_rows") [(Str.ofString "_digests", W.ref j), (Str.ofString "_words", W.ref w), (Str.ofString "_rows", W.ref r)] = some (W.ref r) := rfl
  have la : atI (rs.map W.ref) (-1) = some (.ref rs[8]) := by
    have h2 : ixN (rs.map W.ref).length (-1) = some 8 := by rw [List.length_map, h.me.rl]; rfl
    rw [atI, h2]
    simp [hl8]
  have hln := lev_len2 m words h.me.wl 8
  have at1 : (lv m words 8)[0]? = some (gt (lv m words 8) 0) := gt_get (by rw [hln]; decide)
  generalize rs[8] = a8 at *
  simp only [m_Memory_root, b_Memory_root]
  simp [hei, heg, l1, hri, hrg, la, hai, hag, at1]
end
end Gn

namespace Gn
open PySem L2 Mi
/-! ### what a step makes of the state -/
def nOf (g : Rg) (words : List Int) : Nat := (gt words g.pc.toNat / 1024).toNat
def aOf (g : Rg) (words : List Int) : Nat := (gt words g.pc.toNat % 1024).toNat
def dOf (g : Rg) (words : List Int) : Int := gt words (plB (nOf g words) (aOf g words) g.x).toNat
def mOf (g : Rg) (words : List Int) : Option Str := mkN (nOf g words) (aOf g words) g.x g.cnt g.acc (dOf g words)
def stepG (m : Int) (g : Rg) (words : List Int) : Rg := match mOf g words with
  | some s => { g with mrk := mkI s }
  | none => ⟨pcB (nOf g words) (aOf g words) g.pc g.acc (dOf g words), accB (nOf g words) (aOf g words) g.acc (dOf g words), xB (nOf g words) g.acc g.x (dOf g words), 0, outB m (nOf g words) g.acc g.out, cntB (nOf g words) g.cnt⟩
def stepW (g : Rg) (words : List Int) : List Int := match mOf g words with
  | some _ => words
  | none => match wrB (nOf g words) g.pc g.acc with
    | some v => words.set (plB (nOf g words) (aOf g words) g.x).toNat v
    | none => words
def stepT (g : Rg) (told words : List Int) : List Int := match mOf g words with
  | some _ => told
  | none => if nOf g words = 28 then told ++ [g.acc] else told
theorem plB_in (n a : Nat) (x : Int) : 0 ≤ plB n a x ∧ plB n a x < 256 := by
  unfold plB
  split <;> omega
theorem gt_word {words : List Int} (h : ∀ x ∈ words, Word x) (p : Nat) : Word (gt words p) := by
  by_cases hp : p < words.length
  · have e : gt words p = words[p] := by simp [gt, List.getD, hp]
    rw [e]; exact h _ (List.getElem_mem hp)
  · have e : gt words p = 0 := by simp [gt, List.getD, hp]
    rw [e]; exact ⟨by omega, by omega⟩
theorem mkI_in {s : Str} (h : s = "done" ∨ s = "divided" ∨ s = "place" ∨ s = "input" ∨ s = "full" ∨ s = "bad") : 0 < mkI s ∧ mkI s < 7 := by
  rcases h with rfl | rfl | rfl | rfl | rfl | rfl <;> simp [mkI]
theorem set_word {words : List Int} (h : ∀ x ∈ words, Word x) {v : Int} (hv : Word v) (p : Nat) : ∀ x ∈ words.set p v, Word x := by
  intro x hx
  rcases List.mem_or_eq_of_mem_set hx with z | z
  · exact h x z
  · rw [z]; exact hv
section
variable {m : Int} {g : Rg} {told words : List Int} (hm : 7 < m) (h : Good m g) (hw : ∀ x ∈ words, Word x) (ht : (told.length : Int) ≤ g.cnt)
include hm h hw ht
theorem good_step : Good m (stepG m g words) ∧ (∀ x ∈ stepW g words, Word x) ∧ ((stepT g told words).length : Int) ≤ (stepG m g words).cnt := by
  have hd : Word (dOf g words) := gt_word hw _
  have hwd : Word (gt words g.pc.toNat) := gt_word hw _
  obtain ⟨⟨p0, p1⟩, ⟨a0, a1⟩, ⟨x0, x1⟩, ⟨k0, k1⟩, ⟨o0, o1⟩, c0, c1⟩ := h
  have ha : aOf g words < 1024 := by unfold aOf; omega
  simp only [stepG, stepW, stepT]
  cases hmo : mOf g words with
  | some s =>
    have hs := mkI_in (mkN_in hmo)
    exact ⟨⟨⟨p0, p1⟩, ⟨a0, a1⟩, ⟨x0, x1⟩, ⟨by show 0 ≤ mkI s; omega, hs.2⟩, ⟨o0, o1⟩, c0, c1⟩, hw, ht⟩
  | none =>
    have h28 : nOf g words = 28 → g.cnt < 16 := fun e => by
      have z := hmo
      simp only [mOf, mkN, e] at z
      simp at z
      omega
    simp only [mOf] at hmo
    refine ⟨⟨?_, ?_, ?_, ⟨by show (0 : Int) ≤ 0; omega, by show (0 : Int) < 7; omega⟩, ?_, ?_⟩, ?_, ?_⟩
    · simp only [pcB]
      repeat' split
      all_goals omega
    · simp only [accB]
      split
      · exact ⟨by omega, by omega⟩
      split
      · exact hd
      split
      · split <;> exact ⟨by omega, by omega⟩
      split
      · rename_i h12
        cases hs : sem (nm (nOf g words)) g.acc (dOf g words) with
        | none => exact ⟨by simp, by simp⟩
        | some v => exact sem_word _ _ _ _ ⟨a0, a1⟩ hd hs
      · exact ⟨a0, a1⟩
    · simp only [xB]
      split
      · exact ⟨a0, a1⟩
      split
      · exact hd
      · exact ⟨x0, x1⟩
    · simp only [outB]
      split
      · exact ⟨Int.emod_nonneg _ (by omega), Int.emod_lt_of_pos _ (by omega)⟩
      · exact ⟨o0, o1⟩
    · simp only [cntB]
      split
      · rename_i e; have := h28 e; omega
      · omega
    · cases hwr : wrB (nOf g words) g.pc g.acc with
      | none => exact hw
      | some v =>
        refine set_word hw ?_ _
        simp only [wrB] at hwr
        split at hwr
        · cases hwr; exact ⟨a0, a1⟩
        split at hwr
        · cases hwr; exact ⟨by omega, by omega⟩
        · cases hwr
    · simp only [cntB]
      split
      · simp; omega
      · exact ht
end
end Gn

namespace Gn
open PySem L2 Mi
/-! ### a step -/
section
variable {m : Int} {j M e w r : Nat} {rs : List Nat} {g : Rg} {told words : List Int} {st : Sto} (h : Mach m j M e w r rs g told words st)
include h
theorem t_rest (hk : g.mrk ≠ 0) : m_Machine_step [.ref M] st = .ok .non st := by
  obtain ⟨hi, hg⟩ := List.getElem?_eq_some_iff.mp h.mo
  have l1 : List.lookup (Str.ofString "_registers") (machF j e (rgW g) (.tup (told.map W.int))) = some (rgW g) := rfl
  have x3 : ∀ p q s t u v : W, atI [p, q, s, t, u, v] 3 = some t := fun _ _ _ _ _ _ => rfl
  simp only [m_Machine_step, b_Machine_step]
  simp [hi, hg, l1, x3, hk]
end
end Gn

namespace Gn
open PySem L2 Mi
section
variable {m : Int} {j M e w r : Nat} {rs : List Nat} {g : Rg} {told words : List Int} {st : Sto}
theorem Mach.upd (h : Mach m j M e w r rs g told words st) {g2 : Rg} {told2 : List Int} (hg : Good m g2) (ht : (told2.length : Int) ≤ g2.cnt) : Mach m j M e w r rs g2 told2 words (st.set M (.ins 3 (machF j e (rgW g2) (.tup (told2.map W.int))))) := by
  have hML := (List.getElem?_eq_some_iff.mp h.mo).1
  have hjM : j ≠ M := by
    rintro rfl
    obtain ⟨_, h1, _, rfl⟩ := h.dg
    rw [h.mo] at h1
    cases h1
  exact ⟨List.getElem?_set_self hML, h.me.set h.nm, h.dg.set hjM, h.nm, hg, h.ww, ht⟩
/-- a step that changes no word -/
theorem t_stepN (hm : 7 < m) (hm1 : m < 18446744073709551616) (h : Mach m j M e w r rs g told words st) (hk : g.mrk = 0) (hwr : mOf g words = none → wrB (nOf g words) g.pc g.acc = none) :
    m_Machine_step [.ref M] st = .ok .non (st.set M (.ins 3 (machF j e (rgW (stepG m g words)) (.tup ((stepT g told words).map W.int))))) := by
  have hm0 : 0 < m := by omega
  have hgo := h.go
  have hd : Word (dOf g words) := gt_word h.ww _
  have hwd : Word (gt words g.pc.toNat) := gt_word h.ww _
  have hn : gt words g.pc.toNat / 1024 = (nOf g words : Int) := by have := hwd.1; unfold nOf; omega
  have ha : gt words g.pc.toNat % 1024 = (aOf g words : Int) := by unfold aOf; omega
  have pin := plB_in (nOf g words) (aOf g words) g.x
  have hpc : g.pc = (g.pc.toNat : Int) := by have := hgo.pc.1; omega
  have hw1 := t_memword h g.pc.toNat (by have := hgo.pc; omega)
  rw [← hpc] at hw1
  have hpl : plB (nOf g words) (aOf g words) g.x = ((plB (nOf g words) (aOf g words) g.x).toNat : Int) := by omega
  have hw2 : m_Memory_word [.ref e, .int (plB (nOf g words) (aOf g words) g.x)] st = .ok (.int (dOf g words)) st := by
    have z := t_memword h (plB (nOf g words) (aOf g words) g.x).toNat (by omega)
    rw [← hpl] at z
    exact z
  have hdo := t_data_of (gt words g.pc.toNat) (nOf g words) (aOf g words) hn ha (.int g.pc) (.int g.acc) (.int g.mrk) (.int g.out) (.int g.cnt) g.x st
  have hdn := fun dw hdw => t_done hm0 hm1 h.dg (gt words g.pc.toNat) (nOf g words) (aOf g words) hn ha g.pc g.acc g.x g.mrk g.out g.cnt (dOf g words) dw hgo.acc hd hgo.out hdw
  obtain ⟨hi, hg⟩ := List.getElem?_eq_some_iff.mp h.mo
  obtain ⟨hei, heg⟩ := List.getElem?_eq_some_iff.mp h.me.ob
  have hMe : M ≠ e := fun z => h.nm (by rw [z]; simp)
  have lr : ∀ X T, List.lookup (Str.ofString "_registers") [(Str.ofString "_digests", W.ref j), (Str.ofString "_registers", X), (Str.ofString "_memory", W.ref e), (Str.ofString "_told", T)] = some X := fun _ _ => rfl
  have lm : ∀ X T, List.lookup (Str.ofString "_memory") [(Str.ofString "_digests", W.ref j), (Str.ofString "_registers", X), (Str.ofString "_memory", W.ref e), (Str.ofString "_told", T)] = some (W.ref e) := fun _ _ => rfl
  have ld : ∀ X T, List.lookup (Str.ofString "_digests") [(Str.ofString "_digests", W.ref j), (Str.ofString "_registers", X), (Str.ofString "_memory", W.ref e), (Str.ofString "_told", T)] = some (W.ref j) := fun _ _ => rfl
  have lt : ∀ X T, List.lookup (Str.ofString "_told") [(Str.ofString "_digests", W.ref j), (Str.ofString "_registers", X), (Str.ofString "_memory", W.ref e), (Str.ofString "_told", T)] = some T := fun _ _ => rfl
  have lw : List.lookup (Str.ofString "word") [(Str.ofString "_digests", W.ref j), (Str.ofString "_words", W.ref w), (Str.ofString "_rows", W.ref r)] = none := rfl
  have x0 : ∀ p q s t u v : W, atI [p, q, s, t, u, v] 0 = some p := fun _ _ _ _ _ _ => rfl
  have x1 : ∀ p q s t u v : W, atI [p, q, s, t, u, v] 1 = some q := fun _ _ _ _ _ _ => rfl
  have x3 : ∀ p q s t u v : W, atI [p, q, s, t, u, v] 3 = some t := fun _ _ _ _ _ _ => rfl
  have x5 : ∀ p q s t u v : W, atI [p, q, s, t, u, v] 5 = some v := fun _ _ _ _ _ _ => rfl
  have pa0 : ∀ p q : W, atI [p, q] 0 = some p := fun _ _ => rfl
  have s1 : (1 : Nat) ≤ sizeLine := by decide
  have stl : told.length + 1 ≤ sizeLine := by have := h.tl; have := hgo.cnt.2; rw [sizeLine_eq]; omega
  have hset : ∀ o, (st.set M o)[M]? = some o := fun o => List.getElem?_set_self hi
  simp only [m_Machine_step, b_Machine_step]
  by_cases h4 : nOf g words = 4 ∨ nOf g words = 6 ∨ nOf g words = 26
  · exfalso
    have z : mOf g words = none := by
      unfold mOf
      rcases h4 with z | z | z <;> rw [z] <;> simp [mkN]
    have y := hwr z
    rcases h4 with z | z | z <;> rw [z] at y <;> simp [wrB] at y
  by_cases hA : Asks (nOf g words)
  · have hd1 := hdn (.int (dOf g words)) (fun _ => rfl)
    simp only [daW, h4, hA, if_true, if_false] at hdo
    have n28 : ¬ nOf g words = 28 := by unfold Asks at hA; omega
    cases hmo : mOf g words with
    | some s =>
      simp only [mOf] at hmo
      simp only [doneW, hmo] at hd1
      simp only [stepG, stepT, mOf, hmo]
      simp [hi, hg, hei, heg, lr, lm, ld, lt, lw, x0, x1, x3, x5, pa0, hk, hw1, hdo, hw2, hd1, hset, putW]
    | none =>
      have hwn := hwr hmo
      simp only [mOf] at hmo
      simp only [doneW, hmo, hwn, wOf] at hd1
      simp only [stepG, stepT, mOf, hmo, n28, cntB, if_false] at hd1 ⊢
      simp [hi, hg, hei, heg, lr, lm, ld, lt, lw, x0, x1, x3, x5, pa0, hk, hw1, hdo, hw2, hd1, hset, putW]
  · have hd1 := hdn .non (fun z => absurd z hA)
    simp only [daW, h4, hA, if_true, if_false] at hdo
    cases hmo : mOf g words with
    | some s =>
      simp only [mOf] at hmo
      simp only [doneW, hmo] at hd1
      simp only [stepG, stepT, mOf, hmo]
      simp [hi, hg, hei, heg, lr, lm, ld, lt, lw, x0, x1, x3, x5, pa0, hk, hw1, hdo, hw2, hd1, hset, putW]
    | none =>
      have hwn := hwr hmo
      simp only [mOf] at hmo
      simp only [doneW, hmo, hwn, wOf] at hd1
      by_cases n28 : nOf g words = 28
      · have hmo28 := hmo
        rw [n28] at hmo28
        have hlt : g.cnt < g.cnt + 1 := by omega
        simp only [stepG, stepT, mOf, hmo, n28, hmo28, cntB, if_true] at hd1 ⊢
        simp [hlt, hi, hg, hei, heg, lr, lm, ld, lt, lw, x0, x1, x3, x5, pa0, hk, hw1, hdo, hw2, hd1, hset, putW, s1, stl]
      · simp only [stepG, stepT, mOf, hmo, n28, cntB, if_false] at hd1 ⊢
        simp [hi, hg, hei, heg, lr, lm, ld, lt, lw, x0, x1, x3, x5, pa0, hk, hw1, hdo, hw2, hd1, hset, putW]
end
end Gn

namespace Gn
open PySem L2 Mi
section
variable {m : Int} {j M e w r : Nat} {rs : List Nat} {g : Rg} {told words : List Int} {st : Sto}
/-- a step that changes a word -/
theorem t_stepC (hm : 7 < m) (hm1 : m < 18446744073709551616) (h : Mach m j M e w r rs g told words st) (hk : g.mrk = 0) {v : Int} (hmo : mOf g words = none) (hwr : wrB (nOf g words) g.pc g.acc = some v) :
    ∃ st', m_Machine_step [.ref M] st = .ok .non st' ∧ Mach m j M e w r (rs.set 8 st.length) (stepG m g words) (stepT g told words) (stepW g words) st' ∧ st'.length = st.length + 1 ∧ ∀ i, i < st.length → i ≠ M → i ≠ w → i ≠ r → i ∉ rs → st'[i]? = st[i]? := by
  have hm0 : 0 < m := by omega
  have hgo := h.go
  have hd : Word (dOf g words) := gt_word h.ww _
  have hwd : Word (gt words g.pc.toNat) := gt_word h.ww _
  have hn : gt words g.pc.toNat / 1024 = (nOf g words : Int) := by have := hwd.1; unfold nOf; omega
  have ha : gt words g.pc.toNat % 1024 = (aOf g words : Int) := by unfold aOf; omega
  have pin := plB_in (nOf g words) (aOf g words) g.x
  have hpc : g.pc = (g.pc.toNat : Int) := by have := hgo.pc.1; omega
  have hw1 := t_memword h g.pc.toNat (by have := hgo.pc; omega)
  rw [← hpc] at hw1
  have hpl : plB (nOf g words) (aOf g words) g.x = ((plB (nOf g words) (aOf g words) g.x).toNat : Int) := by omega
  have hw2 : m_Memory_word [.ref e, .int (plB (nOf g words) (aOf g words) g.x)] st = .ok (.int (dOf g words)) st := by
    have z := t_memword h (plB (nOf g words) (aOf g words) g.x).toNat (by omega)
    rw [← hpl] at z
    exact z
  have hdo := t_data_of (gt words g.pc.toNat) (nOf g words) (aOf g words) hn ha (.int g.pc) (.int g.acc) (.int g.mrk) (.int g.out) (.int g.cnt) g.x st
  have hdn := fun dw hdw => t_done hm0 hm1 h.dg (gt words g.pc.toNat) (nOf g words) (aOf g words) hn ha g.pc g.acc g.x g.mrk g.out g.cnt (dOf g words) dw hgo.acc hd hgo.out hdw
  obtain ⟨hi, hg⟩ := List.getElem?_eq_some_iff.mp h.mo
  obtain ⟨hei, heg⟩ := List.getElem?_eq_some_iff.mp h.me.ob
  have hMe : M ≠ e := fun z => h.nm (by rw [z]; simp)
  have lr : ∀ X T, List.lookup (Str.ofString "_registers") [(Str.ofString "_digests", W.ref j), (Str.ofString "_registers", X), (Str.ofString "_memory", W.ref e), (Str.ofString "_told", T)] = some X := fun _ _ => rfl
  have lm : ∀ X T, List.lookup (Str.ofString "_memory") [(Str.ofString "_digests", W.ref j), (Str.ofString "_registers", X), (Str.ofString "_memory", W.ref e), (Str.ofString "_told", T)] = some (W.ref e) := fun _ _ => rfl
  have ld : ∀ X T, List.lookup (Str.ofString "_digests") [(Str.ofString "_digests", W.ref j), (Str.ofString "_registers", X), (Str.ofString "_memory", W.ref e), (Str.ofString "_told", T)] = some (W.ref j) := fun _ _ => rfl
  have lt : ∀ X T, List.lookup (Str.ofString "_told") [(Str.ofString "_digests", W.ref j), (Str.ofString "_registers", X), (Str.ofString "_memory", W.ref e), (Str.ofString "_told", T)] = some T := fun _ _ => rfl
  have lw : List.lookup (Str.ofString "word") [(Str.ofString "_digests", W.ref j), (Str.ofString "_words", W.ref w), (Str.ofString "_rows", W.ref r)] = none := rfl
  have x0 : ∀ p q s t u v : W, atI [p, q, s, t, u, v] 0 = some p := fun _ _ _ _ _ _ => rfl
  have x1 : ∀ p q s t u v : W, atI [p, q, s, t, u, v] 1 = some q := fun _ _ _ _ _ _ => rfl
  have x3 : ∀ p q s t u v : W, atI [p, q, s, t, u, v] 3 = some t := fun _ _ _ _ _ _ => rfl
  have x5 : ∀ p q s t u v : W, atI [p, q, s, t, u, v] 5 = some v := fun _ _ _ _ _ _ => rfl
  have pa0 : ∀ p q : W, atI [p, q] 0 = some p := fun _ _ => rfl
  have s1 : (1 : Nat) ≤ sizeLine := by decide
  have stl : told.length + 1 ≤ sizeLine := by have := h.tl; have := hgo.cnt.2; rw [sizeLine_eq]; omega
  have hset : ∀ o, (st.set M o)[M]? = some o := fun o => List.getElem?_set_self hi
  have h4 : nOf g words = 4 ∨ nOf g words = 6 ∨ nOf g words = 26 := by
    simp only [wrB] at hwr
    split at hwr
    · omega
    split at hwr
    · omega
    · cases hwr
  have n28 : ¬ nOf g words = 28 := by omega
  obtain ⟨G1, G2, G3⟩ := good_step hm hgo h.ww h.tl (told := told)
  have hT : stepT g told words = told := by simp only [stepT, hmo, n28, if_false]
  have hW : stepW g words = words.set (plB (nOf g words) (aOf g words) g.x).toNat v := by simp only [stepW, hmo, hwr]
  rw [hT] at G3
  have h1 := h.upd G1 G3
  obtain ⟨st2, ec, hM2, hf2, hl2⟩ := t_change (p := (plB (nOf g words) (aOf g words) g.x).toNat) (v := v) hm0 hm1 h1.me h1.dg (by omega)
  rw [← hpl] at ec
  rw [List.length_set] at hM2 hf2 hl2
  have hMw : M ≠ w := fun z => h.nm (by rw [z]; simp)
  have hMr : M ≠ r := fun z => h.nm (by rw [z]; simp)
  have hMs : M ∉ rs := fun z => h.nm (by simp [z])
  have h2M := hf2 M hi hMw hMr hMs
  rw [h1.mo] at h2M
  have hjne : j ≠ w ∧ j ≠ r ∧ j ∉ rs := by
    refine ⟨MemAt.dig_ne h1.dg h1.me.wo, MemAt.dig_ne h1.dg h1.me.ro, fun z => ?_⟩
    obtain ⟨k, hk2, hk3⟩ := List.getElem_of_mem z
    exact MemAt.dig_ne h1.dg (h1.me.rw k _ (List.getElem?_eq_getElem hk2)) hk3.symm
  have hjl : j < st.length := by
    obtain ⟨_, z, _⟩ := h.dg
    exact (List.getElem?_eq_some_iff.mp z).1
  refine ⟨st2, ?_, ⟨?_, by rw [hW]; exact hM2, ?_, ?_, G1, G2, by rw [hT]; exact G3⟩, hl2, fun i hi1 hi2 hi3 hi4 hi5 => ?_⟩
  · have hd1 := hdn (.int (dOf g words)) (fun _ => rfl)
    have he2 : ∀ o, (st.set M o)[e]? = some (Ob.ins 2 (memF j w r)) := fun o => by rw [List.getElem?_set_ne hMe]; exact h.me.ob
    have lc : List.lookup (Str.ofString "change") [(Str.ofString "_digests", W.ref j), (Str.ofString "_words", W.ref w), (Str.ofString "_rows", W.ref r)] = none := rfl
    simp only [daW, h4, if_true] at hdo
    simp only [mOf] at hmo
    simp only [doneW, hmo, hwr, wOf] at hd1
    simp only [stepG, mOf, hmo] at ec h2M
    simp only [cntB, n28, if_false] at hd1 ec h2M
    simp only [m_Machine_step, b_Machine_step]
    simp [hi, hg, hei, heg, lr, lm, ld, lt, lw, x0, x1, x3, x5, pa0, hk, hw1, hdo, hw2, hd1, hset, putW, he2, hMe, lc, ec, h2M]
  · rw [hT]; exact h2M
  · obtain ⟨o, z1, z2⟩ := h1.dg
    exact ⟨o, by rw [hf2 j hjl hjne.1 hjne.2.1 hjne.2.2]; exact z1, z2⟩
  · intro z
    simp only [List.mem_cons] at z
    rcases z with z | z | z | z
    · exact hMe z
    · exact hMw z
    · exact hMr z
    · rcases List.mem_or_eq_of_mem_set z with z | z
      · exact hMs z
      · omega
  · rw [hf2 i hi1 hi3 hi4 hi5, List.getElem?_set_ne (Ne.symm hi2)]
end
end Gn

namespace Gn
open PySem L2 Mi
/-! ### the digest of a state -/
def stS (m f n : Int) : Int := ((f + n) * (f + 48611) + 52774 * n + 19) % m
def stateN (m : Int) (ns : List Int) : Int := (ns.foldl (stS m) 3) % m
theorem stS_in {m : Int} (hm : 3 < m) : ∀ (ns : List Int) (f : Int), 0 ≤ f ∧ f < m → 0 ≤ ns.foldl (stS m) f ∧ ns.foldl (stS m) f < m
  | [], f, h => h
  | n :: ns, f, h => stS_in hm ns _ ⟨Int.emod_nonneg _ (by omega), Int.emod_lt_of_pos _ (by omega)⟩
theorem t_state {m : Int} {st : Sto} {j : Nat} (hm : 3 < m) (hm1 : m < 4611686018427387904) (h : DigAt m st j) (ns : List Int) :
    m_Digests_state [.ref j, .tup (ns.map W.int)] st = .ok (.int (stateN m ns)) st := by
  have hk := fun k t x => t_kept (by omega) h k t x
  obtain ⟨_, ho, b, rfl⟩ := h
  obtain ⟨s2, st2, e1, ⟨rfl, x, rfl⟩⟩ := loop_st (ws := ns.map W.int) (g := mGN 3) (n := ns.length) (s := [some (.ref j), some (.tup (ns.map W.int)), some (.int 3), none]) (st := st) (body := l0_Digests_state) (by simp)
    (fun k s t => t = st ∧ ∃ x : Option W, s = [some (.ref j), some (.tup (ns.map W.int)), some (.int ((ns.take k).foldl (stS m) 3)), x])
    ⟨rfl, none, by simp⟩ (by
      rintro k w s t hw ⟨rfl, x, rfl⟩
      rw [List.getElem?_map, Option.map_eq_some_iff] at hw
      obtain ⟨n, hn, rfl⟩ := hw
      refine ⟨_, _, rfl, ?_⟩
      have hin := stS_in hm (ns.take k) 3 (by omega)
      have e := take_foldl (stS m) 3 ns k n hn
      generalize (ns.take k).foldl (stS m) 3 = f at hin e ⊢
      have h1 : mulOk (f + n) (f + 48611) = true := by
        simp only [mulOk, Bool.or_eq_true, decide_eq_true_eq]
        exact .inl (.inr (by omega))
      have h0 : (0 : Int) < m := by omega
      simp [l0_Digests_state, -mulOk, h1, ho, h0, e, stS, mo_small])
  rw [List.take_length] at e1
  simp only [m_Digests_state, b_Digests_state, w_FIRST_STATE]
  simp [e1, ho, hk, stateN]
end Gn

namespace Gn
open PySem L2 Mi
abbrev rgL (g : Rg) : List Int := [g.pc, g.acc, g.x, g.mrk, g.out, g.cnt]
def digN (m : Int) (g : Rg) (words : List Int) : Int := stateN m (rgL g ++ [gt (lv m words 8) 0])
section
variable {m : Int} {j M e w r : Nat} {rs : List Nat} {g : Rg} {told words : List Int} {st : Sto} (h : Mach m j M e w r rs g told words st)
include h
theorem t_mroot : m_Machine_root [.ref M] st = .ok (.int (gt (lv m words 8) 0)) st := by
  have h1 := t_memroot h
  have h2 := h.mo
  have h3 := h.me.ob
  simp only [m_Machine_root, b_Machine_root]
  simp [h2, h3, h1]
theorem t_mdig (hm : 7 < m) (hm1 : m < 4611686018427387904) : m_Machine_digest [.ref M] st = .ok (.int (digN m g words)) st := by
  have h1 := t_mroot h
  have h2 := h.mo
  have h3 := t_state (by omega) hm1 h.dg (rgL g ++ [gt (lv m words 8) 0])
  obtain ⟨_, h4, b, rfl⟩ := h.dg
  simp only [rgL, List.map_cons, List.map_nil, List.cons_append, List.nil_append] at h3
  simp only [m_Machine_digest, b_Machine_digest, digN]
  simp [h2, h4, h1, h3, sizeLine_eq]
end
end Gn

namespace Gn
open PySem L2 Mi
/-! ### any step -/
def nxG (m : Int) (g : Rg) (words : List Int) : Rg := if g.mrk = 0 then stepG m g words else g
def nxW (g : Rg) (words : List Int) : List Int := if g.mrk = 0 then stepW g words else words
def nxT (g : Rg) (told words : List Int) : List Int := if g.mrk = 0 then stepT g told words else told
theorem t_step {m : Int} {j M e w r : Nat} {rs : List Nat} {g : Rg} {told words : List Int} {st : Sto} (hm : 7 < m) (hm1 : m < 18446744073709551616) (h : Mach m j M e w r rs g told words st) :
    ∃ st' rs', m_Machine_step [.ref M] st = .ok .non st' ∧ Mach m j M e w r rs' (nxG m g words) (nxT g told words) (nxW g words) st' ∧ Only (M :: w :: r :: rs) st st' ∧ ∀ i ∈ rs', i ∈ rs ∨ st.length ≤ i := by
  by_cases hk : g.mrk = 0
  · simp only [nxG, nxW, nxT, hk, if_true]
    by_cases hc : mOf g words = none ∧ wrB (nOf g words) g.pc g.acc ≠ none
    · obtain ⟨v, hv⟩ : ∃ v, wrB (nOf g words) g.pc g.acc = some v := Option.ne_none_iff_exists'.mp hc.2
      obtain ⟨st', e1, h1, hl, hf⟩ := t_stepC hm hm1 h hk hc.1 hv
      refine ⟨st', _, e1, h1, ⟨by omega, fun i hi hn => hf i hi (fun z => hn (by simp [z])) (fun z => hn (by simp [z])) (fun z => hn (by simp [z])) (fun z => hn (by simp [z]))⟩, fun i hi => ?_⟩
      rcases List.mem_or_eq_of_mem_set hi with z | z
      · exact .inl z
      · exact .inr (by omega)
    · have hn : mOf g words = none → wrB (nOf g words) g.pc g.acc = none := fun z => by
        cases hw : wrB (nOf g words) g.pc g.acc with
        | none => rfl
        | some v => exact absurd ⟨z, by rw [hw]; simp⟩ hc
      have e1 := t_stepN hm hm1 h hk hn
      obtain ⟨G1, G2, G3⟩ := good_step hm h.go h.ww h.tl (told := told)
      have hW : stepW g words = words := by
        simp only [stepW]
        cases hmo : mOf g words with
        | some s => rfl
        | none => simp only [hn hmo]
      rw [hW]
      exact ⟨_, rs, e1, h.upd G1 G3, Only.set (by simp), fun i hi => .inl hi⟩
  · simp only [nxG, nxW, nxT, hk, if_false]
    exact ⟨st, rs, t_rest h hk, h, Only.refl _ _, fun i hi => .inl hi⟩
end Gn

namespace Gn
open PySem L2 Mi
/-! ### machines among other objects -/
structure Ms where
  g : Rg
  t : List Int
  w : List Int
def nx (m : Int) (s : Ms) : Ms := ⟨nxG m s.g s.w, nxT s.g s.t s.w, nxW s.g s.w⟩
def runM (m : Int) : Nat → Ms → Ms
  | 0, s => s
  | n + 1, s => nx m (runM m n s)
/-- at M stands a machine, all of it at A -/
def Mh (m : Int) (j M : Nat) (s : Ms) (A : List Nat) (st : Sto) : Prop := ∃ e w r rs, A = M :: e :: w :: r :: rs ∧ Mach m j M e w r rs s.g s.t s.w st
structure Ok (m : Int) (s : Ms) : Prop where
  go : Good m s.g
  ww : ∀ x ∈ s.w, Word x
  wl : s.w.length = 256
  tl : (s.t.length : Int) ≤ s.g.cnt
section
variable {m : Int} {j M : Nat} {s : Ms} {A : List Nat} {st st' : Sto}
theorem Mh.ok (h : Mh m j M s A st) : Ok m s := by
  obtain ⟨e, w, r, rs, rfl, h⟩ := h
  exact ⟨h.go, h.ww, h.me.wl, h.tl⟩
theorem Mh.rd (h : Mh m j M s A st) : ∀ i ∈ A, ∃ o, st[i]? = some o ∧ ¬ DigOb m o := by
  obtain ⟨e, w, r, rs, rfl, h⟩ := h
  have nd : ∀ (fs : Fl) (c : Nat), c ≠ 0 → ¬ DigOb m (.ins c fs) := fun fs c hc ⟨b, hb⟩ => by injection hb with h1; exact hc h1
  have nl : ∀ xs, ¬ DigOb m (.lst xs) := fun xs ⟨b, hb⟩ => by cases hb
  intro i hi
  simp only [List.mem_cons] at hi
  rcases hi with rfl | rfl | rfl | rfl | hi
  · exact ⟨_, h.mo, nd _ _ (by omega)⟩
  · exact ⟨_, h.me.ob, nd _ _ (by omega)⟩
  · exact ⟨_, h.me.wo, nl _⟩
  · exact ⟨_, h.me.ro, nl _⟩
  · obtain ⟨k, hk, rfl⟩ := List.getElem_of_mem hi
    exact ⟨_, h.me.rw k _ (List.getElem?_eq_getElem hk), nl _⟩
theorem Mh.lt (h : Mh m j M s A st) : ∀ i ∈ A, i < st.length := fun i hi => by
  obtain ⟨o, h1, _⟩ := h.rd i hi
  exact (List.getElem?_eq_some_iff.mp h1).1
theorem Mh.dig (h : Mh m j M s A st) : DigAt m st j := by
  obtain ⟨e, w, r, rs, rfl, h⟩ := h
  exact h.dg
theorem Mh.jn (h : Mh m j M s A st) : j ∉ A := fun hj => by
  obtain ⟨o, h1, h2⟩ := h.rd j hj
  obtain ⟨o', h3, h4⟩ := h.dig
  rw [h1] at h3
  cases h3
  exact h2 h4
theorem Mh.self (h : Mh m j M s A st) : M ∈ A := by
  obtain ⟨e, w, r, rs, rfl, h⟩ := h
  simp
theorem Mh.only (h : Mh m j M s A st) {B : List Nat} (k : Only B st st') (hA : ∀ i ∈ A, i ∉ B) (hj : j ∉ B) : Mh m j M s A st' := by
  obtain ⟨e, w, r, rs, rfl, h⟩ := h
  refine ⟨e, w, r, rs, rfl, ⟨k.rd h.mo (hA _ (by simp)), ⟨k.rd h.me.ob (hA _ (by simp)), k.rd h.me.wo (hA _ (by simp)), k.rd h.me.ro (hA _ (by simp)), h.me.rl, fun i a ha => ?_, h.me.nd, h.me.wl⟩, h.dg.only k hj, h.nm, h.go, h.ww, h.tl⟩⟩
  exact k.rd (h.me.rw i a ha) (hA _ (by simp [List.mem_of_getElem? ha]))
theorem Mh.step (h : Mh m j M s A st) (hm : 7 < m) (hm1 : m < 18446744073709551616) :
    ∃ st' A', m_Machine_step [.ref M] st = .ok .non st' ∧ Mh m j M (nx m s) A' st' ∧ Only A st st' ∧ ∀ i ∈ A', i ∈ A ∨ st.length ≤ i := by
  obtain ⟨e, w, r, rs, rfl, h⟩ := h
  obtain ⟨st', rs', e1, h1, h2, h3⟩ := t_step hm hm1 h
  refine ⟨st', _, e1, ⟨e, w, r, rs', rfl, h1⟩, h2.mono (fun i hi _ => ?_), fun i hi => ?_⟩
  · simp only [List.mem_cons] at hi ⊢
    rcases hi with hi | hi | hi | hi <;> simp [hi]
  · simp only [List.mem_cons] at hi ⊢
    rcases hi with hi | hi | hi | hi | hi
    · simp [hi]
    · simp [hi]
    · simp [hi]
    · simp [hi]
    · rcases h3 i hi with z | z
      · simp [z]
      · exact .inr z
/-- a machine made -/
theorem Mh.make {S : Sto} {g : Rg} {words : List Int} (hm : 7 < m) (hm1 : m < 18446744073709551616) (hl : words.length = 256) (hD : DigAt m S j) (hg : Good m g) (hw : ∀ x ∈ words, Word x) :
    ∃ st' A, m_Machine_init [.ref S.length, .ref j, rgW g, .tup (words.map W.int)] (S ++ [.ins 3 []]) = .ok .non st' ∧ Mh m j S.length ⟨g, [], words⟩ A st' ∧ Only [] S st' ∧ S.length < st'.length ∧ (∀ i ∈ A, S.length ≤ i) ∧ (∃ fs, st'[S.length]? = some (.ins 3 fs)) := by
  obtain ⟨st', T, e1, rfl, h5, h6⟩ := t_machinit (rgW g) (by omega) hm1 hl hD
  have hr : List.range 9 = [0, 1, 2, 3, 4, 5, 6, 7, 8] := rfl
  refine ⟨S ++ T, _, e1, ⟨_, _, _, _, rfl, ⟨h5, h6, hD.app, ?_, hg, hw, by simpa using hg.cnt.1⟩⟩, Only.app _ _ _, (List.getElem?_eq_some_iff.mp h5).1, fun i hi => ?_, _, h5⟩
  · rw [hr]
    simp [ad]
    omega
  · rw [hr] at hi
    simp [ad] at hi
    omega
theorem Mh.regs (h : Mh m j M s A st) : m_Machine_registers [.ref M] st = .ok (rgW s.g) st := by
  obtain ⟨e, w, r, rs, rfl, h⟩ := h
  exact t_mregs h
theorem Mh.words (h : Mh m j M s A st) : m_Machine_words [.ref M] st = .ok (.tup (s.w.map W.int)) st := by
  obtain ⟨e, w, r, rs, rfl, h⟩ := h
  exact t_mwords h
theorem Mh.told (h : Mh m j M s A st) : m_Machine_told [.ref M] st = .ok (.tup (s.t.map W.int)) st := by
  obtain ⟨e, w, r, rs, rfl, h⟩ := h
  exact t_mtold h
theorem Mh.root (h : Mh m j M s A st) : m_Machine_root [.ref M] st = .ok (.int (gt (lv m s.w 8) 0)) st := by
  obtain ⟨e, w, r, rs, rfl, h⟩ := h
  exact t_mroot h
theorem Mh.digest (h : Mh m j M s A st) (hm : 7 < m) (hm1 : m < 4611686018427387904) : m_Machine_digest [.ref M] st = .ok (.int (digN m s.g s.w)) st := by
  obtain ⟨e, w, r, rs, rfl, h⟩ := h
  exact t_mdig h hm hm1
theorem Mh.obj (h : Mh m j M s A st) : ∃ e, st[M]? = some (.ins 3 (machF j e (rgW s.g) (.tup (s.t.map W.int)))) := by
  obtain ⟨e, w, r, rs, rfl, h⟩ := h
  exact ⟨e, h.mo⟩
end
end Gn

namespace Gn
open PySem L2 Mi
/-- Machine.word -/
theorem Mh.word {m : Int} {j M : Nat} {s : Ms} {A : List Nat} {st : Sto} (h : Mh m j M s A st) (p : Nat) (hp : p < 256) : m_Machine_word [.ref M, .int (p : Int)] st = .ok (.int (gt s.w p)) st := by
  obtain ⟨e, w, r, rs, rfl, h⟩ := h
  have h1 := t_memword h p hp
  have h2 := h.mo
  have h3 := h.me.ob
  simp only [m_Machine_word, b_Machine_word]
  simp [h2, h3, h1]
end Gn

namespace Gn
open PySem L2 Mi
/-! ### what a step reads -/
theorem mkN_na {n : Nat} (h : ¬ Asks n) (a : Nat) (x cnt acc d d' : Int) : mkN n a x cnt acc d = mkN n a x cnt acc d' := by
  unfold Asks at h
  have h1 : n ≠ 10 := by omega
  have h2 : ¬ (12 ≤ n ∧ n ≤ 22) := by omega
  simp only [mkN, h1, h2, false_and, if_false]
theorem pcB_na {n : Nat} (h : ¬ Asks n) (a : Nat) (pc acc d d' : Int) : pcB n a pc acc d = pcB n a pc acc d' := by
  unfold Asks at h
  have h1 : n ≠ 27 := by omega
  simp only [pcB, h1, if_false]
theorem accB_na {n : Nat} (h : ¬ Asks n) (a : Nat) (acc d d' : Int) : accB n a acc d = accB n a acc d' := by
  unfold Asks at h
  have h1 : ¬ (n = 3 ∨ n = 5) := by omega
  have h2 : ¬ (12 ≤ n ∧ n ≤ 22) := by omega
  simp only [accB, h1, h2, if_false]
theorem xB_na {n : Nat} (h : ¬ Asks n) (acc x d d' : Int) : xB n acc x d = xB n acc x d' := by
  unfold Asks at h
  have h1 : n ≠ 8 := by omega
  simp only [xB, h1, if_false]
/-- the places that a step reads or changes -/
def uses (s : Ms) : List Int := if s.g.mrk = 0 then (if (nOf s.g s.w = 4 ∨ nOf s.g s.w = 6 ∨ nOf s.g s.w = 26) ∨ Asks (nOf s.g s.w) then [s.g.pc, plB (nOf s.g s.w) (aOf s.g s.w) s.g.x] else [s.g.pc]) else []
/-- a step of two machines that differ at places that it does not use -/
theorem nx_sim {m : Int} {s s' : Ms} (hg : s'.g = s.g) (ht : s'.t = s.t) (hu : ∀ p ∈ uses s, gt s'.w p.toNat = gt s.w p.toNat) :
    (nx m s').g = (nx m s).g ∧ (nx m s').t = (nx m s).t ∧ (((nx m s).w = s.w ∧ (nx m s').w = s'.w) ∨ ∃ p ∈ uses s, ∃ v, (nx m s).w = s.w.set p.toNat v ∧ (nx m s').w = s'.w.set p.toNat v) := by
  obtain ⟨g, t, w⟩ := s
  obtain ⟨g', t', w'⟩ := s'
  cases hg
  cases ht
  by_cases hk : g.mrk = 0
  · have e1 : ∀ v, nxG m g v = stepG m g v := fun _ => if_pos hk
    have e2 : ∀ v, nxW g v = stepW g v := fun _ => if_pos hk
    have e3 : ∀ v, nxT g t v = stepT g t v := fun _ => if_pos hk
    simp only [nx, e1, e2, e3]
    simp only [uses, hk, if_true] at hu ⊢
    have hpc : gt w' g.pc.toNat = gt w g.pc.toNat := hu g.pc (by split <;> simp)
    have hn : nOf g w' = nOf g w := by unfold nOf; rw [hpc]
    have ha : aOf g w' = aOf g w := by unfold aOf; rw [hpc]
    generalize hN : nOf g w = n at hn hu ⊢
    generalize hA : aOf g w = a at ha hu ⊢
    by_cases hA2 : Asks n
    · have hd : dOf g w' = dOf g w := by
        unfold dOf
        rw [hn, ha, hN, hA]
        exact hu _ (by rw [if_pos (.inr hA2)]; simp)
      have hm : mOf g w' = mOf g w := by unfold mOf; rw [hn, ha, hN, hA, hd]
      refine ⟨?_, ?_, ?_⟩
      · simp only [stepG, hm, hn, ha, hN, hA, hd]
      · simp only [stepT, hm, hn, hN]
      · left
        have hw : wrB n g.pc g.acc = none := by
          unfold Asks at hA2
          unfold wrB
          rw [if_neg (by omega), if_neg (by omega)]
        simp only [stepW, hm, hn, hN, hw]
        cases mOf g w <;> exact ⟨rfl, rfl⟩
    · have hm : mOf g w' = mOf g w := by
        unfold mOf
        rw [hn, ha, hN, hA]
        exact mkN_na hA2 _ _ _ _ _ _
      refine ⟨?_, ?_, ?_⟩
      · simp only [stepG, hm, hn, ha, hN, hA]
        rw [pcB_na hA2 a g.pc g.acc (dOf g w') (dOf g w), accB_na hA2 a g.acc (dOf g w') (dOf g w), xB_na hA2 g.acc g.x (dOf g w') (dOf g w)]
      · simp only [stepT, hm, hn, hN]
      · cases hmo : mOf g w with
        | some s => simp only [stepW, hm, hmo]; exact .inl ⟨trivial, trivial⟩
        | none =>
          cases hwr : wrB n g.pc g.acc with
          | none => simp only [stepW, hm, hmo, hn, hN, hwr]; exact .inl ⟨trivial, trivial⟩
          | some v =>
            have h4 : n = 4 ∨ n = 6 ∨ n = 26 := by
              unfold wrB at hwr
              split at hwr
              · omega
              · split at hwr
                · omega
                · cases hwr
            right
            refine ⟨plB n a g.x, by rw [if_pos (.inl h4)]; simp, v, ?_⟩
            simp only [stepW, hm, hmo, hn, ha, hN, hA, hwr, and_self]
  · have e1 : ∀ v, nxG m g v = g := fun _ => if_neg hk
    have e2 : ∀ v, nxW g v = v := fun _ => if_neg hk
    have e3 : ∀ v, nxT g t v = t := fun _ => if_neg hk
    simp only [nx, e1, e2, e3]
    simp
theorem uses_in {m : Int} {s : Ms} (h : Ok m s) : ∀ p ∈ uses s, 0 ≤ p ∧ p < 256 := by
  intro p hp
  have h1 := h.go.pc
  have h2 := plB_in (nOf s.g s.w) (aOf s.g s.w) s.g.x
  unfold uses at hp
  split at hp
  · split at hp
    · simp only [List.mem_cons, List.not_mem_nil, or_false] at hp
      rcases hp with rfl | rfl <;> assumption
    · simp only [List.mem_cons, List.not_mem_nil, or_false] at hp
      subst hp; exact h1
  · simp at hp
/-- told words are appended -/
theorem nxT_app (g : Rg) (t u w : List Int) : nxT g (t ++ u) w = t ++ nxT g u w := by
  unfold nxT stepT
  split
  · cases mOf g w with
    | some s => rfl
    | none => simp only []; split <;> simp
  · rfl
theorem ok_nx {m : Int} {s : Ms} (hm : 7 < m) (h : Ok m s) : Ok m (nx m s) := by
  by_cases hk : s.g.mrk = 0
  · have e1 : nxG m s.g s.w = stepG m s.g s.w := if_pos hk
    have e2 : nxW s.g s.w = stepW s.g s.w := if_pos hk
    have e3 : nxT s.g s.t s.w = stepT s.g s.t s.w := if_pos hk
    obtain ⟨G1, G2, G3⟩ := good_step hm h.go h.ww h.tl (told := s.t)
    have hl : (stepW s.g s.w).length = 256 := by
      unfold stepW
      have := h.wl
      cases mOf s.g s.w with
      | some s => exact this
      | none => simp only []; split <;> simp [this]
    exact ⟨by show Good m (nxG m s.g s.w); rw [e1]; exact G1, by show ∀ x ∈ nxW s.g s.w, _; rw [e2]; exact G2, by show (nxW s.g s.w).length = 256; rw [e2]; exact hl, by show ((nxT s.g s.t s.w).length : Int) ≤ (nxG m s.g s.w).cnt; rw [e1, e3]; exact G3⟩
  · have e1 : nxG m s.g s.w = s.g := if_neg hk
    have e2 : nxW s.g s.w = s.w := if_neg hk
    have e3 : nxT s.g s.t s.w = s.t := if_neg hk
    have : nx m s = s := by unfold nx; rw [e1, e2, e3]
    rw [this]; exact h
theorem ok_run {m : Int} {s : Ms} (hm : 7 < m) (h : Ok m s) : ∀ n, Ok m (runM m n s)
  | 0 => h
  | n + 1 => ok_nx hm (ok_run hm h n)
end Gn

namespace Gn
/-- the neighbour of a place -/
def sib (p : Nat) : Nat := p + 1 - 2 * (p % 2)
end Gn

namespace Gn
open PySem L2 Mi
/-! ### paths -/
theorem xor1 (p : Nat) : Builtin.bitXor (p : Int) 1 = ((sib p : Nat) : Int) := by
  have h : Builtin.bitAnd (p : Int) 1 = ((p % 2 : Nat) : Int) := by
    have e : Builtin.bitAnd (p : Int) 1 = ((p &&& 1 : Nat) : Int) := by simp [Builtin.bitAnd]
    rw [e, Nat.and_one_is_mod]
  rw [PyProof.Rows.bitXor_and, h]
  unfold sib
  omega
theorem sib_lt {p n : Nat} (h : p < 2 * n) : sib p < 2 * n := by unfold sib; omega
/-- the path of a place in a memory -/
def pathN (m : Int) (words : List Int) (p : Nat) : List Int := (List.range 8).map fun k => gt (lv m words k) (sib (p / 2 ^ k))
theorem atI_ints' {row : List Int} {p : Nat} {i : Int} (hp : p < row.length) (hi : i = (p : Int)) : atI (row.map W.int) i = some (.int (gt row p)) := by
  rw [hi]; exact atI_ints row p hp
theorem half (p k : Nat) : ((p / 2 ^ k : Nat) : Int) / 2 = ((p / 2 ^ (k + 1) : Nat) : Int) := by
  have : p / 2 ^ (k + 1) = p / 2 ^ k / 2 := by rw [Nat.div_div_eq_div_mul, Nat.pow_succ]
  rw [this]; omega
theorem lv_len {m : Int} {words : List Int} (h : words.length = 256) (k : Nat) : (lv m words k).length = 256 / 2 ^ k := lev_len2 m words h k
theorem sib_in {p k : Nat} (hp : p < 256) (hk : k < 8) : sib (p / 2 ^ k) < 256 / 2 ^ k := by
  obtain ⟨p1, p2, p3, p4, p5⟩ := pow_sm k hk
  rw [p3]
  refine sib_lt ?_
  rw [← p3]
  exact Nat.div_lt_div_of_lt_of_dvd (pow_dv k (by omega)) hp
theorem path_take (m : Int) (words : List Int) (p k : Nat) (hk : k < 8) : ((pathN m words p).take (k + 1)) = (pathN m words p).take k ++ [gt (lv m words k) (sib (p / 2 ^ k))] := by
  rw [List.take_succ]
  simp [pathN, hk]
theorem path_len (m : Int) (words : List Int) (p : Nat) : (pathN m words p).length = 8 := by simp [pathN]
section
variable {m : Int} {j M : Nat} {s : Ms} {A : List Nat} {st : Sto}
theorem Mh.path (h : Mh m j M s A st) (p : Nat) (hp : p < 256) : m_Machine_path [.ref M, .int (p : Int)] st = .ok (.tup ((pathN m s.w p).map W.int)) (st ++ [.lst ((pathN m s.w p).map W.int)]) := by
  obtain ⟨e, w, r, rs, rfl, h⟩ := h
  have c1 := h.mo
  have c2 := h.me.ob
  have c3 := h.me.ro
  have c8 := cut8 rs h.me.rl
  have key := loop_st (ws := (rs.take 8).map W.ref) (g := mGN 3) (n := 8) (s := [some (.ref e), some (.int (p : Int)), some (.ref st.length), none]) (st := st ++ [.lst []]) (body := l0_Memory_path) (by simp [h.me.rl])
    (fun k s2 t => (∃ x : Option W, s2 = [some (.ref e), some (.int ((p / 2 ^ k : Nat) : Int)), some (.ref st.length), x]) ∧ t = st ++ [.lst (((pathN m s.w p).take k).map W.int)])
    ⟨⟨none, by simp⟩, by simp⟩ (by
      rintro k w' s2 t hw ⟨⟨x, rfl⟩, rfl⟩
      rw [List.getElem?_map] at hw
      have hk : k < 8 := by
        rcases Nat.lt_or_ge k 8 with hk | hk
        · exact hk
        · rw [List.getElem?_eq_none (by simp; omega)] at hw; cases hw
      rw [List.getElem?_take_of_lt hk] at hw
      obtain ⟨a, ha⟩ : ∃ a, rs[k]? = some a := ⟨rs[k]'(by have := h.me.rl; omega), List.getElem?_eq_getElem _⟩
      rw [ha] at hw
      cases hw
      have hrow := app_lt (t := [Ob.lst (((pathN m s.w p).take k).map W.int)]) (h.me.rw k a ha)
      refine ⟨_, _, rfl, ?_⟩
      have at1 := atI_ints (lv m s.w k) (sib (p / 2 ^ k)) (by rw [lv_len h.me.wl]; exact sib_in hp hk)
      have hx := xor1 (p / 2 ^ k)
      have hh := half p k
      have hpt := path_take m s.w p k hk
      have hsz : (((pathN m s.w p).take k).map W.int).length < sizeLine := by rw [sizeLine_eq, List.length_map, List.length_take, path_len]; omega
      have g1 : (st ++ [Ob.lst (((pathN m s.w p).take k).map W.int)])[st.length]? = some (Ob.lst (((pathN m s.w p).take k).map W.int)) := by simp
      generalize p / 2 ^ k = q at *
      rw [hpt, List.map_append]
      generalize ((pathN m s.w p).take k).map W.int = R at *
      simp only [mGN, List.set]
      simp only [l0_Memory_path]
      simp [hrow, hx, at1, hh, hsz])
  obtain ⟨s8, t8, hlp, ⟨x, rfl⟩, rfl⟩ := key
  have ht : (pathN m s.w p).take 8 = pathN m s.w p := List.take_of_length_le (by rw [path_len]; exact Nat.le_refl _)
  rw [ht] at hlp
  have e1 : m_Memory_path [.ref e, .int (p : Int)] st = .ok (.tup ((pathN m s.w p).map W.int)) (st ++ [.lst ((pathN m s.w p).map W.int)]) := by
    generalize (pathN m s.w p).map W.int = V at hlp ⊢
    have d1 := app_lt (t := [Ob.lst []]) c2
    have d2 := app_lt (t := [Ob.lst []]) c3
    refine def_rt rfl ?_
    show b_Memory_path [some (.ref e), some (.int (p : Int)), none, none] st = _
    unfold b_Memory_path
    refine seq_nx (by simp [sizeLine_eq]; exact ⟨rfl, rfl⟩) ?_
    refine seq_nx (by simp [d1, d2, c8, h.me.rl, -List.map_take, hlp]; exact ⟨rfl, rfl⟩) ?_
    simp
  simp only [m_Machine_path, b_Machine_path]
  simp [c1, c2, e1]
end
end Gn

namespace Gn
open PySem L2 Mi
/-! ### rows of 2 ^ n digests -/
theorem gt_app_lt {a b : List Int} {p : Nat} (h : p < a.length) : gt (a ++ b) p = gt a p := by
  simp [gt, List.getD, List.getElem?_append_left h]
theorem gt_app_ge (a b : List Int) (p : Nat) : gt (a ++ b) (a.length + p) = gt b p := by
  simp [gt, List.getD, List.getElem?_append_right (Nat.le_add_right _ _)]
theorem ext_gt {a b : List Int} (hl : a.length = b.length) (h : ∀ k, k < a.length → gt a k = gt b k) : a = b := by
  refine List.ext_getElem hl fun k h1 h2 => ?_
  have e := h k h1
  simpa [gt, List.getD, h1, h2] using e
theorem prs_app (f : Int → Int → Int) (a b : List Int) (q : Nat) (h : a.length = 2 * q) : prs f (a ++ b) = prs f a ++ prs f b := by
  have hl : (prs f a).length = q := by rw [prs_len]; omega
  refine ext_gt (by rw [prs_len, List.length_append, List.length_append, prs_len, prs_len]; omega) fun k hk => ?_
  rw [prs_len, List.length_append] at hk
  rw [prs_getD _ _ _ (by rw [List.length_append]; omega)]
  by_cases h1 : k < q
  · rw [gt_app_lt (by omega), gt_app_lt (by omega), gt_app_lt (by omega), prs_getD _ _ _ (by omega)]
  · obtain ⟨i, rfl⟩ : ∃ i, k = q + i := ⟨k - q, by omega⟩
    have e1 : 2 * (q + i) = a.length + 2 * i := by omega
    have e2 : 2 * (q + i) + 1 = a.length + (2 * i + 1) := by omega
    have z := gt_app_ge (prs f a) (prs f b) i
    rw [hl] at z
    rw [z, e2, e1, gt_app_ge, gt_app_ge, prs_getD _ _ _ (by omega)]
theorem lev_app (f : Int → Int → Int) (a b : List Int) : ∀ k, 2 ^ k ∣ a.length → lev f (a ++ b) k = lev f a k ++ lev f b k
  | 0, _ => rfl
  | k + 1, h => by
    have hd : 2 ^ k ∣ a.length := Nat.dvd_trans (Nat.pow_dvd_pow 2 (Nat.le_succ k)) h
    rw [lev, lev_app f a b k hd]
    obtain ⟨c, hc⟩ := h
    refine prs_app f _ _ c ?_
    rw [lev_len, hc, Nat.pow_succ, Nat.mul_assoc, Nat.mul_div_cancel_left _ (Nat.two_pow_pos k)]
/-- the root of a row of 2 ^ n digests -/
def rtN (m : Int) (row : List Int) (n : Nat) : Int := gt (lev (foldN m) row n) 0
def paN (m : Int) (row : List Int) (n p : Nat) : List Int := (List.range n).map fun k => gt (lev (foldN m) row k) (sib (p / 2 ^ k))
section
variable (m : Int) (a b : List Int) (n : Nat) (ha : a.length = 2 ^ n) (hb : b.length = 2 ^ n)
include ha hb
theorem lev_two : lev (foldN m) (a ++ b) n = [rtN m a n, rtN m b n] := by
  rw [lev_app _ _ _ _ (by rw [ha]; exact Nat.dvd_refl _)]
  have h1 : (lev (foldN m) a n).length = 1 := by rw [lev_len, ha, Nat.div_self (Nat.two_pow_pos n)]
  have h2 : (lev (foldN m) b n).length = 1 := by rw [lev_len, hb, Nat.div_self (Nat.two_pow_pos n)]
  unfold rtN
  match lev (foldN m) a n, lev (foldN m) b n, h1, h2 with
  | [x], [y], _, _ => rfl
theorem rt_app : rtN m (a ++ b) (n + 1) = foldN m (rtN m a n) (rtN m b n) := by
  show gt (prs (foldN m) (lev (foldN m) (a ++ b) n)) 0 = _
  rw [lev_two m a b n ha hb, prs_getD _ _ _ (by simp)]
  rfl
theorem sib_pow {q : Nat} (hq : 2 * q = q + q) (x : Nat) (hx : x < 2 * q) : sib x < 2 * q := by unfold sib; omega
theorem pa_lo (p : Nat) (hp : p < 2 ^ n) : paN m (a ++ b) (n + 1) p = paN m a n p ++ [rtN m b n] := by
  unfold paN
  rw [List.range_succ, List.map_append]
  congr 1
  · refine List.map_congr_left fun k hk => ?_
    have hk' : k < n := List.mem_range.mp hk
    have hd : 2 ^ k ∣ a.length := by rw [ha]; exact Nat.pow_dvd_pow 2 (by omega)
    rw [lev_app _ _ _ _ hd]
    refine gt_app_lt ?_
    rw [lev_len, ha, Nat.pow_div (by omega) (by omega)]
    obtain ⟨i, hi⟩ : ∃ i, n - k = i + 1 := ⟨n - k - 1, by omega⟩
    have hpk : p / 2 ^ k < 2 ^ (n - k) := by
      rw [← Nat.pow_div (by omega) (by omega)]
      exact Nat.div_lt_div_of_lt_of_dvd (Nat.pow_dvd_pow 2 (by omega)) hp
    rw [hi, Nat.pow_succ] at hpk ⊢
    generalize p / 2 ^ k = q at hpk ⊢
    generalize 2 ^ i = z at hpk ⊢
    unfold sib; omega
  · simp only [List.map_cons, List.map_nil]
    rw [lev_two m a b n ha hb, Nat.div_eq_of_lt hp]
    rfl
theorem pa_hi (p : Nat) (hp : p < 2 ^ n) : paN m (a ++ b) (n + 1) (2 ^ n + p) = paN m b n p ++ [rtN m a n] := by
  unfold paN
  rw [List.range_succ, List.map_append]
  congr 1
  · refine List.map_congr_left fun k hk => ?_
    have hk' : k < n := List.mem_range.mp hk
    have hd : 2 ^ k ∣ a.length := by rw [ha]; exact Nat.pow_dvd_pow 2 (by omega)
    rw [lev_app _ _ _ _ hd]
    have hl : (lev (foldN m) a k).length = 2 ^ (n - k) := by rw [lev_len, ha, Nat.pow_div (by omega) (by omega)]
    obtain ⟨i, hi⟩ : ∃ i, n - k = i + 1 := ⟨n - k - 1, by omega⟩
    have e : (2 ^ n + p) / 2 ^ k = 2 ^ (n - k) + p / 2 ^ k := by
      have : 2 ^ n = 2 ^ k * 2 ^ (n - k) := by rw [← Nat.pow_add]; congr 1; omega
      rw [this, Nat.mul_add_div (Nat.two_pow_pos k)]
    have e2 : sib (2 ^ (n - k) + p / 2 ^ k) = (lev (foldN m) a k).length + sib (p / 2 ^ k) := by
      rw [hl, hi, Nat.pow_succ]
      generalize p / 2 ^ k = q
      generalize 2 ^ i = z
      unfold sib; omega
    rw [e, e2, gt_app_ge]
  · simp only [List.map_cons, List.map_nil]
    rw [lev_two m a b n ha hb]
    have e : (2 ^ n + p) / 2 ^ n = 1 := by
      rw [Nat.add_div_left _ (Nat.two_pow_pos n), Nat.div_eq_of_lt hp]
    rw [e]
    rfl
end
theorem rt_one (m x : Int) : rtN m [x] 0 = x := rfl
/-- the path leads to the root -/
theorem pa_root (m : Int) (row : List Int) (n : Nat) (hl : row.length = 2 ^ n) (p : Nat) (hp : p < 2 ^ n) (rbS : Nat × Int → Int → Nat × Int) (hS : rbS = fun q x => (q.1 / 2, if q.1 % 2 = 0 then foldN m q.2 x else foldN m x q.2)) :
    ((paN m row n p).foldl rbS (p, gt row p)).2 = rtN m row n := by
  have key : ∀ k, k ≤ n → ((List.range k).map fun i => gt (lev (foldN m) row i) (sib (p / 2 ^ i))).foldl rbS (p, gt row p) = (p / 2 ^ k, gt (lev (foldN m) row k) (p / 2 ^ k)) := by
    intro k
    induction k with
    | zero => intro _; simp [lev]
    | succ k ih =>
      intro hk
      rw [List.range_succ, List.map_append, List.foldl_append, ih (by omega)]
      simp only [List.map_cons, List.map_nil, List.foldl_cons, List.foldl_nil]
      have e2 : p / 2 ^ (k + 1) = p / 2 ^ k / 2 := by rw [Nat.div_div_eq_div_mul, Nat.pow_succ]
      obtain ⟨i, hi⟩ : ∃ i, n - k = i + 1 := ⟨n - k - 1, by omega⟩
      have hln : (lev (foldN m) row k).length = 2 ^ i * 2 := by rw [lev_len, hl, Nat.pow_div (by omega) (by omega), hi, Nat.pow_succ]
      have hpk : p / 2 ^ k < 2 ^ (n - k) := by
        rw [← Nat.pow_div (by omega) (by omega)]
        exact Nat.div_lt_div_of_lt_of_dvd (Nat.pow_dvd_pow 2 (by omega)) hp
      rw [hi, Nat.pow_succ] at hpk
      have hnx : gt (lev (foldN m) row (k + 1)) (p / 2 ^ k / 2) = foldN m (gt (lev (foldN m) row k) (2 * (p / 2 ^ k / 2))) (gt (lev (foldN m) row k) (2 * (p / 2 ^ k / 2) + 1)) := prs_getD _ _ _ (by rw [hln]; omega)
      rw [e2, hnx, hS]
      generalize p / 2 ^ k = q at *
      generalize lev (foldN m) row k = L at *
      by_cases h : q % 2 = 0
      · have a1 : 2 * (q / 2) = q := by omega
        have a2 : sib q = q + 1 := by unfold sib; omega
        simp only [h, if_true, a1, a2]
      · have a1 : 2 * (q / 2) + 1 = q := by omega
        have a2 : sib q = 2 * (q / 2) := by unfold sib; omega
        simp only [h, if_false, a1, a2]
  have h := key n (Nat.le_refl n)
  unfold paN
  rw [h, Nat.div_eq_of_lt hp]
  rfl
end Gn

namespace Gn
open PySem L2 Mi
/-! ### rows of digests, cut in blocks -/
theorem lev_add (f : Int → Int → Int) (row : List Int) (a : Nat) : ∀ b, lev f row (a + b) = lev f (lev f row a) b
  | 0 => rfl
  | b + 1 => by
    show prs f (lev f row (a + b)) = prs f (lev f (lev f row a) b)
    rw [lev_add f row a b]
theorem lev_part (f : Int → Int → Int) (row : List Int) (a i : Nat) (hi : (i + 1) * 2 ^ a ≤ row.length) : ∀ k, k ≤ a → ∀ j, j < 2 ^ (a - k) → gt (lev f row k) (i * 2 ^ (a - k) + j) = gt (lev f ((row.drop (i * 2 ^ a)).take (2 ^ a)) k) j := by
  have hpl : ((row.drop (i * 2 ^ a)).take (2 ^ a)).length = 2 ^ a := by
    rw [List.length_take, List.length_drop]
    rw [Nat.succ_mul] at hi
    omega
  intro k
  induction k with
  | zero =>
    intro _ j hj
    show gt row (i * 2 ^ a + j) = gt ((row.drop (i * 2 ^ a)).take (2 ^ a)) j
    have hj' : j < 2 ^ a := hj
    simp [gt, List.getD, List.getElem?_take, hj']
  | succ k ih =>
    intro hk j hj
    obtain ⟨n, hn⟩ : ∃ n, a - k = n + 1 := ⟨a - k - 1, by omega⟩
    have hn1 : a - (k + 1) = n := by omega
    have hak : a = k + (n + 1) := by omega
    rw [hn1] at hj ⊢
    have ih' := ih (by omega)
    rw [hn, Nat.pow_succ] at ih'
    have e2 : 2 ^ a = 2 ^ k * (2 ^ n * 2) := by rw [hak, Nat.pow_add, Nat.pow_succ]
    have l1 : (lev f row k).length = row.length / 2 ^ k := lev_len f row k
    have l2 : (lev f ((row.drop (i * 2 ^ a)).take (2 ^ a)) k).length = 2 ^ n * 2 := by
      rw [lev_len, hpl, e2, Nat.mul_div_cancel_left _ (Nat.two_pow_pos k)]
    have l3 : (i + 1) * (2 ^ n * 2) ≤ (lev f row k).length := by
      rw [l1, Nat.le_div_iff_mul_le (Nat.two_pow_pos k)]
      calc (i + 1) * (2 ^ n * 2) * 2 ^ k = (i + 1) * 2 ^ a := by rw [e2, Nat.mul_assoc, Nat.mul_comm (2 ^ n * 2)]
        _ ≤ row.length := hi
    have e3 : (i + 1) * (2 ^ n * 2) = 2 * (i * 2 ^ n) + 2 * 2 ^ n := by
      rw [Nat.succ_mul, ← Nat.mul_assoc]
      generalize i * 2 ^ n = z
      omega
    have a1 : 2 * (i * 2 ^ n + j) = i * (2 ^ n * 2) + 2 * j := by rw [← Nat.mul_assoc]; generalize i * 2 ^ n = z; omega
    have a2 : 2 * (i * 2 ^ n + j) + 1 = i * (2 ^ n * 2) + (2 * j + 1) := by rw [← Nat.mul_assoc]; generalize i * 2 ^ n = z; omega
    show gt (prs f (lev f row k)) _ = gt (prs f (lev f _ k)) j
    rw [prs_getD _ _ _ (by rw [e3] at l3; generalize i * 2 ^ n = z at *; omega), prs_getD _ _ _ (by rw [l2]; omega), a2, a1, ih' (2 * j) (by omega), ih' (2 * j + 1) (by omega)]
/-- digests behind the steps a + 1 to a + n -/
def dRow (D : Nat → Int) (a n : Nat) : List Int := (List.range n).map fun t => D (a + t + 1)
theorem dRow_len (D : Nat → Int) (a n : Nat) : (dRow D a n).length = n := by simp [dRow]
theorem dRow_gt (D : Nat → Int) (a n : Nat) {t : Nat} (h : t < n) : gt (dRow D a n) t = D (a + t + 1) := by simp [gt, dRow, List.getD, h]
theorem dRow_cut (D : Nat → Int) (a n b c : Nat) (h : b + c ≤ n) : ((dRow D a n).drop b).take c = dRow D (a + b) c := by
  refine ext_gt (by rw [List.length_take, List.length_drop, dRow_len, dRow_len]; omega) fun k hk => ?_
  rw [List.length_take, List.length_drop, dRow_len] at hk
  rw [dRow_gt D (a + b) c (by omega)]
  have e : gt (((dRow D a n).drop b).take c) k = gt (dRow D a n) (b + k) := by simp [gt, List.getD, List.getElem?_take, show k < c by omega]
  rw [e, dRow_gt D a n (by omega)]
  congr 1; omega
def rtsOf (m : Int) (D : Nat → Int) (L a n : Nat) : List Int := (List.range n).map fun t => rtN m (dRow D ((a + t) * 2 ^ L) (2 ^ L)) L
theorem rts_len (m : Int) (D : Nat → Int) (L a n : Nat) : (rtsOf m D L a n).length = n := by simp [rtsOf]
theorem rts_gt (m : Int) (D : Nat → Int) (L a n : Nat) {t : Nat} (h : t < n) : gt (rtsOf m D L a n) t = rtN m (dRow D ((a + t) * 2 ^ L) (2 ^ L)) L := by simp [gt, rtsOf, List.getD, h]
/-- a row's level L is the row of its blocks' roots -/
theorem lev_rts (m : Int) (D : Nat → Int) (L x n : Nat) : lev (foldN m) (dRow D (x * 2 ^ L) (n * 2 ^ L)) L = rtsOf m D L x n := by
  have hl : (lev (foldN m) (dRow D (x * 2 ^ L) (n * 2 ^ L)) L).length = n := by rw [lev_len, dRow_len, Nat.mul_div_cancel _ (Nat.two_pow_pos L)]
  refine ext_gt (by rw [hl, rts_len]) fun t ht => ?_
  rw [hl] at ht
  rw [rts_gt m D L x n ht]
  have hle : (t + 1) * 2 ^ L ≤ n * 2 ^ L := Nat.mul_le_mul_right _ ht
  have e := lev_part (foldN m) (dRow D (x * 2 ^ L) (n * 2 ^ L)) L t (by rw [dRow_len]; exact hle) L (Nat.le_refl L) 0 (by simp)
  rw [Nat.sub_self, Nat.pow_zero, Nat.mul_one, Nat.add_zero] at e
  rw [e, dRow_cut D _ _ _ _ (by rw [Nat.succ_mul] at hle; omega), ← Nat.add_mul]
  rfl
theorem rt_rts (m : Int) (D : Nat → Int) (L x l : Nat) (hl : L ≤ l) : rtN m (dRow D (x * 2 ^ l) (2 ^ l)) l = rtN m (rtsOf m D L (x * 2 ^ (l - L)) (2 ^ (l - L))) (l - L) := by
  have e1 : 2 ^ l = 2 ^ (l - L) * 2 ^ L := by rw [← Nat.pow_add]; congr 1; omega
  have e2 : lev (foldN m) (dRow D (x * 2 ^ l) (2 ^ l)) l = lev (foldN m) (lev (foldN m) (dRow D (x * 2 ^ l) (2 ^ l)) L) (l - L) := by
    rw [← lev_add]; congr 1; omega
  unfold rtN
  rw [e2, e1, ← Nat.mul_assoc, lev_rts]
theorem pow_m1 (l k : Nat) (h : k ≤ l) : (2 ^ l - 1) / 2 ^ k = 2 ^ (l - k) - 1 := by
  have e1 : 2 ^ l = 2 ^ (l - k) * 2 ^ k := by rw [← Nat.pow_add]; congr 1; omega
  have p1 := Nat.two_pow_pos k
  have p2 := Nat.two_pow_pos (l - k)
  rw [e1]
  generalize 2 ^ (l - k) = a at *
  generalize 2 ^ k = b at *
  obtain ⟨c, rfl⟩ : ∃ c, a = c + 1 := ⟨a - 1, by omega⟩
  have : (c + 1) * b - 1 = b * c + (b - 1) := by rw [Nat.succ_mul, Nat.mul_comm c b]; omega
  rw [this, Nat.mul_add_div p1, Nat.div_eq_of_lt (by omega)]
  omega
/-- the path of the last digest, by blocks -/
theorem pa_rts (m : Int) (D : Nat → Int) (L x l : Nat) (hl : L ≤ l) :
    paN m (dRow D (x * 2 ^ l) (2 ^ l)) l (2 ^ l - 1) = paN m (dRow D ((x * 2 ^ (l - L) + (2 ^ (l - L) - 1)) * 2 ^ L) (2 ^ L)) L (2 ^ L - 1) ++ paN m (rtsOf m D L (x * 2 ^ (l - L)) (2 ^ (l - L))) (l - L) (2 ^ (l - L) - 1) := by
  have e1 : 2 ^ l = 2 ^ (l - L) * 2 ^ L := by rw [← Nat.pow_add]; congr 1; omega
  obtain ⟨n, hn⟩ : ∃ n, l - L = n := ⟨_, rfl⟩
  have hln : l = L + n := by omega
  have hpn := Nat.two_pow_pos n
  unfold paN
  have hr : List.range l = List.range L ++ (List.range n).map (L + ·) := by rw [hln, List.range_add]
  rw [hr, List.map_append, List.map_map, hn]
  congr 1
  · refine List.map_congr_left fun k hk => ?_
    have hk' : k < L := List.mem_range.mp hk
    rw [pow_m1 l k (by omega), pow_m1 L k (by omega)]
    obtain ⟨c, hc⟩ : ∃ c, L - k = c + 1 := ⟨L - k - 1, by omega⟩
    have hck : l - k = n + (c + 1) := by omega
    have hpc := Nat.two_pow_pos c
    have s1 : sib (2 ^ (L - k) - 1) = 2 ^ c * 2 - 2 := by rw [hc, Nat.pow_succ]; unfold sib; omega
    have s2 : sib (2 ^ (l - k) - 1) = (2 ^ n - 1) * 2 ^ (L - k) + (2 ^ c * 2 - 2) := by
      rw [hck, hc, Nat.pow_add, Nat.pow_succ]
      generalize 2 ^ c = z at *
      obtain ⟨y, hy⟩ : ∃ y, 2 ^ n = y + 1 := ⟨2 ^ n - 1, by omega⟩
      rw [hy, Nat.add_sub_cancel, Nat.succ_mul, ← Nat.mul_assoc]
      generalize y * z = q
      unfold sib
      omega
    have hle : (2 ^ n - 1 + 1) * 2 ^ L ≤ (dRow D (x * 2 ^ l) (2 ^ l)).length := by
      rw [dRow_len, e1, hn, Nat.sub_add_cancel hpn]
      exact Nat.le_refl _
    have e := lev_part (foldN m) (dRow D (x * 2 ^ l) (2 ^ l)) L (2 ^ n - 1) hle k (by omega) (2 ^ c * 2 - 2) (by rw [hc, Nat.pow_succ]; omega)
    rw [s1, s2, e, dRow_cut D _ _ _ _ (by
      rw [e1, hn]
      have : (2 ^ n - 1) * 2 ^ L + 2 ^ L = 2 ^ n * 2 ^ L := by rw [← Nat.succ_mul, Nat.succ_eq_add_one, Nat.sub_add_cancel hpn]
      omega)]
    congr 3
    rw [e1, hn, ← Nat.mul_assoc, ← Nat.add_mul]
  · refine List.map_congr_left fun k hk => ?_
    have hk' : k < n := List.mem_range.mp hk
    simp only [Function.comp]
    have hlk : l - (L + k) = n - k := by omega
    rw [pow_m1 l (L + k) (by omega), pow_m1 n k (by omega), lev_add, hlk, e1, hn, ← Nat.mul_assoc, lev_rts]
end Gn

namespace Gn
open PySem L2 Mi
theorem xor1r (p : Nat) : Builtin.bitXor (p : Int) 1 = ((sib p : Nat) : Int) := by
  have h : Builtin.bitAnd (p : Int) 1 = ((p % 2 : Nat) : Int) := by
    have e : Builtin.bitAnd (p : Int) 1 = ((p &&& 1 : Nat) : Int) := by simp [Builtin.bitAnd]
    rw [e, Nat.and_one_is_mod]
  rw [PyProof.Rows.bitXor_and, h]
  unfold sib
  omega
/-! ### the program's roots and paths -/
theorem pow_rngr : ∀ i, i < 8 → Builtin.Range.small 0 ((2 * 2 ^ i : Nat) : Int) 2 = true ∧ Builtin.Range.rangeSize 0 ((2 * 2 ^ i : Nat) : Int) 2 = ((2 ^ i : Nat) : Int) ∧ 2 ^ i ≤ 1000 := by decide
section
variable {m : Int} {j : Nat} (hm : 0 < m) (hm1 : m < 18446744073709551616) {row : List Int} {n : Nat} (hl : row.length = 2 ^ n) (hn : n ≤ 8) (hr : ∀ x ∈ row, In m x)
include hm hm1 hl hn hr
theorem lv_l (k : Nat) (hk : k ≤ n) : (lev (foldN m) row k).length = 2 ^ (n - k) ∧ ∀ x ∈ lev (foldN m) row k, In m x :=
  ⟨by rw [lev_len, hl, Nat.pow_div hk (by omega)], lev_in _ _ _ (fun x y _ _ => in_fold hm x y) hr k⟩
theorem t_fold1 (k : Nat) (hk : k < n) (a : Nat) (st : Sto) (hD : DigAt m st j) (ha : st[a]? = some (.lst ((lev (foldN m) row k).map W.int))) :
    m_folded [.ref j, .ref a] st = .ok (.ref st.length) (st ++ [.lst ((lev (foldN m) row (k + 1)).map W.int)]) := by
  obtain ⟨l1, l2⟩ := lv_l hm hm1 hl hn hr k (by omega)
  obtain ⟨i, hi⟩ : ∃ i, n - k = i + 1 := ⟨n - k - 1, by omega⟩
  rw [hi, Nat.pow_succ] at l1
  obtain ⟨p1, p2, p3⟩ := pow_rngr i (by omega)
  have e : (lev (foldN m) row k).length = 2 * 2 ^ i := by omega
  exact t_folded hm hm1 hD ha l2 (2 ^ i) e (by rw [e]; exact p1) (by rw [e]; exact p2) p3
theorem t_rootloop : ∀ (r k : Nat), k + r = n → ∀ (a : Nat) (st : Sto), DigAt m st j → st[a]? = some (.lst ((lev (foldN m) row k).map W.int)) → ∀ f, r < f →
    ∃ st' a', mWhileN t0_root_of l1_root_of f [some (.ref j), some (.ref a)] st = .nx [some (.ref j), some (.ref a')] st' ∧ st'[a']? = some (.lst ((lev (foldN m) row n).map W.int)) ∧ Only [] st st'
  | 0, k, e, a, st, hD, ha, f + 1, _ => by
    have hk : k = n := by omega
    subst hk
    have l1 := (lv_l hm hm1 hl hn hr k (Nat.le_refl _)).1
    rw [Nat.sub_self] at l1
    have ht : t0_root_of [some (.ref j), some (.ref a)] st = .ok false st := by simp [t0_root_of, ha, l1]
    exact ⟨st, a, by simp only [mWhileN, ht]; rfl, ha, Only.refl _ _⟩
  | r + 1, k, e, a, st, hD, ha, f + 1, hf => by
    have l1 := (lv_l hm hm1 hl hn hr k (by omega)).1
    obtain ⟨i, hi⟩ : ∃ i, n - k = i + 1 := ⟨n - k - 1, by omega⟩
    rw [hi, Nat.pow_succ] at l1
    have hp := Nat.two_pow_pos i
    have h1 : (1 : Int) < ((lev (foldN m) row k).length : Int) := by rw [l1]; omega
    have ht : t0_root_of [some (.ref j), some (.ref a)] st = .ok true st := by
      generalize lev (foldN m) row k = L at *
      simp [t0_root_of, ha]
      omega
    have hf1 := t_fold1 hm hm1 hl hn hr k (by omega) a st hD ha
    have hb : l1_root_of [some (.ref j), some (.ref a)] st = .nx [some (.ref j), some (.ref st.length)] (st ++ [.lst ((lev (foldN m) row (k + 1)).map W.int)]) := by simp [l1_root_of, hf1]
    obtain ⟨st', a', e1, e2, e3⟩ := t_rootloop r (k + 1) (by omega) st.length (st ++ [.lst ((lev (foldN m) row (k + 1)).map W.int)]) hD.app (by simp) f (by omega)
    refine ⟨st', a', ?_, e2, (Only.app [] st _).trans e3 (by simp)⟩
    rw [mWhileN]
    simp only [ht, Out.run, if_true, hb]
    exact e1
theorem t_rootof (v : W) (st : Sto) (hv : v = .lst (row.map W.int) ∨ v = .tup (row.map W.int) ∨ ∃ a, v = .ref a ∧ st[a]? = some (.lst (row.map W.int))) (hD : DigAt m st j) : ∃ st', m_root_of [.ref j, v] st = .ok (.int (rtN m row n)) st' ∧ Only [] st st' := by
  obtain ⟨st', a', e1, e2, e3⟩ := t_rootloop hm hm1 hl hn hr n 0 (by omega) st.length (st ++ [.lst (row.map W.int)]) hD.app (by simp [lev]) 9 (by omega)
  have l1 := (lv_l hm hm1 hl hn hr n (Nat.le_refl _)).1
  rw [Nat.sub_self] at l1
  have hat : ((lev (foldN m) row n).map W.int)[0]? = some (.int (rtN m row n)) := by
    rw [List.getElem?_map, gt_get (by rw [l1]; decide)]; rfl
  generalize (lev (foldN m) row n).map W.int = L at *
  refine ⟨st', def_rt rfl ?_, (Only.app [] st _).trans e3 (by simp)⟩
  show b_root_of [some (.ref j), some v] st = _
  unfold b_root_of
  refine seq_nx (s1 := [some (.ref j), some (.ref st.length)]) (st1 := st ++ [.lst (row.map W.int)]) ?_ ?_
  · rcases hv with rfl | rfl | ⟨a, rfl, ha⟩
    · simp
    · simp
    · simp [ha]
  refine seq_nx e1 ?_
  simp [-List.getElem?_map, e2, hat]
theorem t_pathloop (p : Nat) (hp : p < 2 ^ n) : ∀ (r k : Nat), k + r = n → ∀ (a P : Nat) (st : Sto), a ≠ P → DigAt m st j → j ≠ P → st[a]? = some (.lst ((lev (foldN m) row k).map W.int)) → st[P]? = some (.lst (((paN m row n p).take k).map W.int)) → ∀ f, r < f →
    ∃ st' a' q', mWhileN t0_path_of l1_path_of f [some (.ref j), some (.ref a), some (.int ((p / 2 ^ k : Nat) : Int)), some (.ref P)] st = .nx [some (.ref j), some (.ref a'), q', some (.ref P)] st' ∧ st'[P]? = some (.lst ((paN m row n p).map W.int)) ∧ Only [P] st st'
  | 0, k, e, a, P, st, hne, hD, hjP, ha, hP, f + 1, _ => by
    have hk : k = n := by omega
    subst hk
    have l1 := (lv_l hm hm1 hl hn hr k (Nat.le_refl _)).1
    rw [Nat.sub_self] at l1
    have ht : t0_path_of [some (.ref j), some (.ref a), some (.int ((p / 2 ^ k : Nat) : Int)), some (.ref P)] st = .ok false st := by simp [t0_path_of, ha, l1]
    have hpl : (paN m row k p).take k = paN m row k p := List.take_of_length_le (by simp [paN])
    rw [hpl] at hP
    exact ⟨st, a, _, by simp only [mWhileN, ht]; rfl, hP, Only.refl _ _⟩
  | r + 1, k, e, a, P, st, hne, hD, hjP, ha, hP, f + 1, hf => by
    have l1 := (lv_l hm hm1 hl hn hr k (by omega)).1
    obtain ⟨i, hi⟩ : ∃ i, n - k = i + 1 := ⟨n - k - 1, by omega⟩
    have hpk : p / 2 ^ k < 2 ^ (n - k) := by
      rw [← Nat.pow_div (by omega) (by omega)]
      exact Nat.div_lt_div_of_lt_of_dvd (Nat.pow_dvd_pow 2 (by omega)) hp
    rw [hi, Nat.pow_succ] at l1 hpk
    have hpw := Nat.two_pow_pos i
    have ht : t0_path_of [some (.ref j), some (.ref a), some (.int ((p / 2 ^ k : Nat) : Int)), some (.ref P)] st = .ok true st := by
      generalize lev (foldN m) row k = L at *
      simp [t0_path_of, ha]
      omega
    have hsb : sib (p / 2 ^ k) < (lev (foldN m) row k).length := by
      rw [l1]
      generalize p / 2 ^ k = q at hpk ⊢
      unfold sib; omega
    have hat := atI_ints (lev (foldN m) row k) (sib (p / 2 ^ k)) hsb
    have hx := xor1r (p / 2 ^ k)
    have hhalf : ((p / 2 ^ k : Nat) : Int) / 2 = ((p / 2 ^ (k + 1) : Nat) : Int) := by
      have : p / 2 ^ (k + 1) = p / 2 ^ k / 2 := by rw [Nat.div_div_eq_div_mul, Nat.pow_succ]
      rw [this]; omega
    have htk : (paN m row n p).take (k + 1) = (paN m row n p).take k ++ [gt (lev (foldN m) row k) (sib (p / 2 ^ k))] := by
      rw [List.take_succ]
      simp [paN, show k < n by omega]
    have hsz : ((paN m row n p).take k).length < 16777216 := by rw [List.length_take]; simp [paN]; omega
    obtain ⟨st1, hst1⟩ : ∃ st1, st1 = st.set P (.lst (((paN m row n p).take (k + 1)).map W.int)) := ⟨_, rfl⟩
    have hPl := (List.getElem?_eq_some_iff.mp hP).1
    have ha1 : st1[a]? = some (.lst ((lev (foldN m) row k).map W.int)) := by rw [hst1, List.getElem?_set_ne (Ne.symm hne)]; exact ha
    have hP1 : st1[P]? = some (.lst (((paN m row n p).take (k + 1)).map W.int)) := by rw [hst1, List.getElem?_set_self hPl]
    have hD1 : DigAt m st1 j := by
      obtain ⟨o, h1, h2⟩ := hD
      exact ⟨o, by rw [hst1, List.getElem?_set_ne (Ne.symm hjP)]; exact h1, h2⟩
    have hf1 := t_fold1 hm hm1 hl hn hr k (by omega) a st1 hD1 ha1
    obtain ⟨st2, hst2⟩ : ∃ st2, st2 = st1 ++ [Ob.lst ((lev (foldN m) row (k + 1)).map W.int)] := ⟨_, rfl⟩
    rw [← hst2] at hf1
    have hlen1 : st1.length = st.length := by rw [hst1]; simp
    have hb : l1_path_of [some (.ref j), some (.ref a), some (.int ((p / 2 ^ k : Nat) : Int)), some (.ref P)] st = .nx [some (.ref j), some (.ref st1.length), some (.int ((p / 2 ^ (k + 1) : Nat) : Int)), some (.ref P)] st2 := by
      unfold l1_path_of
      refine seq_nx (s1 := [some (.ref j), some (.ref a), some (.int ((p / 2 ^ k : Nat) : Int)), some (.ref P)]) (st1 := st1) ?_ ?_
      · rw [hst1, htk, List.map_append]
        generalize p / 2 ^ k = q at *
        generalize (paN m row n p).take k = T at *
        simp [hP, ha, hx, hat, sizeLine_eq, hsz]
      · have l2' : (2 : Nat).log2 < 9000 := by decide
        generalize p / 2 ^ k = q at *
        generalize p / 2 ^ (k + 1) = q2 at *
        refine seq_nx (by simp [hf1]; exact ⟨rfl, rfl⟩) ?_
        simp [hhalf, l2']
    obtain ⟨st', a', q', e1, e2, e3⟩ := t_pathloop p hp r (k + 1) (by omega) st1.length P st2 (by omega) (by rw [hst2]; exact hD1.app) hjP (by rw [hst2]; simp) (by rw [hst2]; exact app_lt0 hP1) f (by omega)
    refine ⟨st', a', q', ?_, e2, ?_⟩
    · rw [mWhileN]
      simp only [ht, Out.run, if_true, hb]
      exact e1
    · have o1 : Only [P] st st1 := by rw [hst1]; exact Only.set (by simp)
      have o2 : Only [P] st1 st2 := by rw [hst2]; exact Only.app _ _ _
      exact (o1.trans o2 (by simp)).trans e3 (by simp)
theorem t_pathof (p : Nat) (hp : p < 2 ^ n) (v : W) (st : Sto) (hv : v = .lst (row.map W.int) ∨ ∃ a, v = .ref a ∧ st[a]? = some (.lst (row.map W.int))) (hD : DigAt m st j) : ∃ st', m_path_of [.ref j, v, .int (p : Int)] st = .ok (.tup ((paN m row n p).map W.int)) st' ∧ Only [] st st' := by
  have hj : j < st.length := by
    obtain ⟨o, h1, _⟩ := hD
    exact (List.getElem?_eq_some_iff.mp h1).1
  obtain ⟨st', a', q', e1, e2, e3⟩ := t_pathloop hm hm1 hl hn hr p hp n 0 (by omega) st.length (st.length + 1) (st ++ [.lst (row.map W.int), .lst []]) (by omega) hD.app (by omega) (by simp [lev]) (by simp) 9 (by omega)
  rw [Nat.pow_zero, Nat.div_one] at e1
  refine ⟨st', def_rt rfl ?_, ?_⟩
  · show b_path_of [some (.ref j), some v, some (.int (p : Int)), none] st = _
    unfold b_path_of
    refine seq_nx (s1 := [some (.ref j), some (.ref st.length), some (.int (p : Int)), none]) (st1 := st ++ [.lst (row.map W.int)]) (by
      rcases hv with rfl | ⟨a, rfl, ha⟩
      · simp
      · simp [ha]) ?_
    refine seq_nx (s1 := [some (.ref j), some (.ref st.length), some (.int (p : Int)), some (.ref (st.length + 1))]) (st1 := st ++ [.lst (row.map W.int), .lst []]) (by simp [sizeLine_eq]) ?_
    refine seq_nx e1 ?_
    simp [e2]
  · refine ⟨by have := e3.1; simp at this; omega, fun i hi _ => ?_⟩
    rw [e3.2 i (by simp; omega) (by simp; omega), List.getElem?_append_left hi]
end
end Gn

namespace Gn
open PySem L2 Mi
/-! ### a history goes on by a step -/
/-- what following asks of the history's object -/
def HistA (j H : Nat) (tw : W) (st : Sto) : Prop := ∃ fs, st[H]? = some (.ins 4 fs) ∧ List.lookup (Str.ofString "_turn") fs = some tw ∧ List.lookup (Str.ofString "_digests") fs = some (.ref j)
theorem HistA.only {j H : Nat} {tw : W} {st st' : Sto} {A : List Nat} (h : HistA j H tw st) (k : Only A st st') (hA : H ∉ A) : HistA j H tw st' := by
  obtain ⟨fs, h1, h2, h3⟩ := h
  exact ⟨fs, k.rd h1 hA, h2, h3⟩
/-- by a step of the history, a machine whose registers and words are those behind i steps comes to those behind i + 1 -/
def FolH (m : Int) (j H : Nat) (tw : W) (S : Nat → Ms) (C : Nat) : Prop := ∀ i, i < C → ∀ (M : Nat) (s : Ms) (A : List Nat) (st : Sto) (told : List Int), HistA j H tw st → Mh m j M s A st → s.g = (S i).g → s.w = (S i).w → H ∉ A → told.length ≤ 100 →
  ∃ (M' : Nat) (s' : Ms) (A' : List Nat) (st' : Sto) (told' : List Int), m_History_following [.ref H, .ref M, .int (i : Int), .tup (told.map W.int)] st = .ok (.tup [.ref M', .tup (told'.map W.int)]) st' ∧ Mh m j M' s' A' st' ∧ s'.g = (S (i + 1)).g ∧ s'.w = (S (i + 1)).w ∧
    Only A st st' ∧ (∀ a ∈ A', a ∈ A ∨ st.length ≤ a) ∧ told'.length ≤ told.length + 16 ∧ (told = (S i).t → told' = (S (i + 1)).t)
/-- what a step tells -/
def newT (s : Ms) : List Int := if s.g.mrk = 0 then (match mOf s.g s.w with | some _ => [] | none => if nOf s.g s.w = 28 then [s.g.acc] else []) else []
theorem nx_t (m : Int) (s : Ms) : (nx m s).t = s.t ++ newT s := by
  show nxT s.g s.t s.w = _
  unfold nxT newT stepT
  by_cases h : s.g.mrk = 0
  · rw [if_pos h, if_pos h]
    cases mOf s.g s.w with
    | some _ => simp
    | none =>
      simp only
      by_cases h2 : nOf s.g s.w = 28
      · rw [if_pos h2, if_pos h2]
      · rw [if_neg h2, if_neg h2]; simp
  · rw [if_neg h, if_neg h]; simp
theorem newT_len (s : Ms) : (newT s).length ≤ 1 := by
  unfold newT
  split
  · split
    · simp
    · split <;> simp
  · simp
theorem nx_gw {m : Int} {s s' : Ms} (hg : s.g = s'.g) (hw : s.w = s'.w) : (nx m s).g = (nx m s').g ∧ (nx m s).w = (nx m s').w ∧ newT s = newT s' := by
  obtain ⟨g, t, w⟩ := s
  obtain ⟨g', t', w'⟩ := s'
  cases hg
  cases hw
  exact ⟨rfl, rfl, rfl⟩
theorem fol_plain {m : Int} (hm : 7 < m) (hm1 : m < 18446744073709551616) (j H : Nat) (S : Nat → Ms) (hS : ∀ i, S (i + 1) = nx m (S i)) (C : Nat) : FolH m j H .non S C := by
  intro i _ M s A st told hH hM hg hw hHA hl
  obtain ⟨fs, hf, ht, -⟩ := hH
  have e1 := hM.told
  obtain ⟨st', A', e2, hM', ho, hA'⟩ := hM.step hm hm1
  have e3 := hM'.told
  obtain ⟨c1, ho1⟩ := hM.obj
  obtain ⟨c2, ho2⟩ := hM'.obj
  have hf' := ho.rd hf hHA
  have hn := newT_len s
  have htl : s.t.length ≤ 16 := by
    have h1 := hM.ok.tl
    have h2 := hM.ok.go.cnt.2
    omega
  have hcut : cutW ((nx m s).t.map W.int) (some (s.t.length : Int)) none = (newT s).map W.int := by
    have z := HT.sIx_nat ((nx m s).t.map W.int).length 0 s.t.length
    have z0 : HT.sIx ((nx m s).t.map W.int).length ((nx m s).t.map W.int).length none = ((nx m s).t.map W.int).length := rfl
    unfold cutW
    rw [z, z0, nx_t, List.length_map, List.length_append, Nat.min_eq_left (by omega), List.map_append, List.drop_append_of_le_length (by simp), List.drop_of_length_le (by simp), List.nil_append]
    exact List.take_of_length_le (by simp)
  obtain ⟨q1, q2, q3⟩ := nx_gw (m := m) hg hw
  refine ⟨M, nx m s, A', st', told ++ newT s, ?_, hM', by rw [q1, hS], by rw [q2, hS], ho, hA', by simp; omega, fun e => by rw [e, hS, nx_t, q3]⟩
  refine def_rt rfl ?_
  show b_History_following [some (.ref H), some (.ref M), some (.int (i : Int)), some (.tup (told.map W.int)), none, none, none, none, none, none] st = _
  unfold b_History_following
  have hz1 : s.t.length ≤ 16777216 := by omega
  have hz2 : told.length + (newT s).length ≤ 16777216 := by omega
  rw [List.map_append]
  refine seq_nx (s1 := [some (.ref H), some (.ref M), some (.int (i : Int)), some (.tup (told.map W.int)), some (.tup (s.t.map W.int)), none, none, none, none, none]) (st1 := st) (by simp [ho1, e1]) ?_
  refine seq_nx (s1 := [some (.ref H), some (.ref M), some (.int (i : Int)), some (.tup (told.map W.int)), some (.tup (s.t.map W.int)), none, none, none, none, none]) (st1 := st') (by simp [ho1, e2]) ?_
  refine seq_nx (s1 := [some (.ref H), some (.ref M), some (.int (i : Int)), some (.tup (told.map W.int ++ (newT s).map W.int)), some (.tup (s.t.map W.int)), none, none, none, none, none]) (st1 := st') (by simp [ho2, e3, sizeLine_eq, hz1, hz2, hcut]) ?_
  refine seq_rt ?_
  simp [hf', ht, sizeLine_eq]
end Gn

namespace Gn
open PySem L2 Mi
theorem rng2_nat {a : MA} {i n : Nat} {s : Slo} {st st1 : Sto} (ha : a s st = .ok [.int (i : Int), .int ((i + n : Nat) : Int)] st1) (h : i + n < 1000000) : mIRng2 a s st = .ok (.vals (rngW (i : Int) n)) st1 := by
  have r1 : rngOk (i : Int) = true := by simp [rngOk]; omega
  have r2 : rngOk ((i + n : Nat) : Int) = true := by simp [rngOk]; omega
  have e : (((i + n : Nat) : Int) - (i : Int)).toNat = n := by omega
  simp only [mIRng2, ha, Out.bind, r1, r2, and_self, if_true, e]
abbrev histF (j : Nat) (tw : W) (C L b : Nat) (a1 a2 a3 a4 : Nat) (e : W) : Fl := [("_digests", .ref j), ("_turn", tw), ("_count", .int (C : Int)), ("_level", .int (L : Int)), ("_block", .int (b : Int)), ("_states", .ref a1), ("_roots", .ref a2), ("_halves", .ref a3), ("_openings", .ref a4), ("_end", e)]
def digS (m : Int) (S : Nat → Ms) (i : Nat) : Int := digN m (S i).g (S i).w
abbrev stGW (s : Ms) : W := .tup [rgW s.g, .tup (s.w.map W.int)]
/-- a history that is made -/
structure HistC (m : Int) (j H : Nat) (tw : W) (S : Nat → Ms) (k L a1 a2 a3 a4 : Nat) (e : W) (st : Sto) : Prop where
  ob : st[H]? = some (.ins 4 (histF j tw (2 ^ k) L (2 ^ L) a1 a2 a3 a4 e))
  s1 : st[a1]? = some (.lst ((List.range (2 ^ (k - L))).map fun b => stGW (S (b * 2 ^ L))))
  s2 : st[a2]? = some (.lst ((rtsOf m (digS m S) L 0 (2 ^ (k - L))).map W.int))
  dg : DigAt m st j
  hL : L ≤ k
  hk : k ≤ 8
  ok : ∀ i, i ≤ 2 ^ k → Good m (S i).g ∧ (S i).w.length = 256 ∧ ∀ x ∈ (S i).w, Word x
section
variable {m : Int} {j H : Nat} {tw : W} {S : Nat → Ms} {k L a1 a2 a3 a4 : Nat} {e : W} {st : Sto}
theorem HistC.a (h : HistC m j H tw S k L a1 a2 a3 a4 e st) : HistA j H tw st := ⟨_, h.ob, rfl, rfl⟩
theorem HistC.only {A : List Nat} {st' : Sto} (h : HistC m j H tw S k L a1 a2 a3 a4 e st) (o : Only A st st') (hA : ∀ i ∈ [j, H, a1, a2], i ∉ A) : HistC m j H tw S k L a1 a2 a3 a4 e st' :=
  ⟨o.rd h.ob (hA _ (by simp)), o.rd h.s1 (hA _ (by simp)), o.rd h.s2 (hA _ (by simp)), h.dg.only o (hA _ (by simp)), h.hL, h.hk, h.ok⟩
theorem pow8 {k : Nat} (h : k ≤ 8) : 2 ^ k ≤ 256 := by
  have := Nat.pow_le_pow_right (n := 2) (by omega) h
  simpa using this
/-- a machine behind n steps, made anew -/
theorem t_hmachine (hm : 7 < m) (hm1 : m < 18446744073709551616) (h : HistC m j H tw S k L a1 a2 a3 a4 e st) (hF : FolH m j H tw S (2 ^ k)) (n : Nat) (hn : n < 2 ^ k) :
    ∃ M s A st', m_History_machine [.ref H, .int (n : Int)] st = .ok (.ref M) st' ∧ Mh m j M s A st' ∧ s.g = (S n).g ∧ s.w = (S n).w ∧ Only [] st st' ∧ (∀ a ∈ A, st.length ≤ a) := by
  have h256 := pow8 h.hk
  have hpL := Nat.two_pow_pos L
  have ekL : 2 ^ k = 2 ^ (k - L) * 2 ^ L := by rw [← Nat.pow_add]; congr 1; have := h.hL; omega
  obtain ⟨b, hb⟩ : ∃ b, b = n / 2 ^ L := ⟨_, rfl⟩
  obtain ⟨r, hr⟩ : ∃ r, r = n % 2 ^ L := ⟨_, rfl⟩
  have hnb : n = b * 2 ^ L + r := by rw [hb, hr, Nat.mul_comm]; exact (Nat.div_add_mod n _).symm
  have hbl : b < 2 ^ (k - L) := by rw [hb, Nat.div_lt_iff_lt_mul hpL, ← ekL]; exact hn
  obtain ⟨g0, l0, w0⟩ := h.ok (b * 2 ^ L) (by omega)
  obtain ⟨st1, A1, em, M1, o1, lt1, f1, c1⟩ := Mh.make (S := st) hm hm1 l0 h.dg g0 w0
  have hHlt : H < st.length := (List.getElem?_eq_some_iff.mp h.ob).1
  obtain ⟨s2, st2, hlp, M, y5, y6, rfl, s, A, hM, hg, hw, ho, hA⟩ := loop_st (ws := rngW ((b * 2 ^ L : Nat) : Int) r) (g := mGN 5) (n := r) (s := [some (.ref H), some (.int (n : Int)), some (rgW (S (b * 2 ^ L)).g), some (.tup ((S (b * 2 ^ L)).w.map W.int)), some (.ref st.length), none, none]) (st := st1) (body := l0_History_machine) (rngW_len _ r)
    (fun i s0 t => ∃ (M : Nat) (y5 y6 : Option W), s0 = [some (.ref H), some (.int (n : Int)), some (rgW (S (b * 2 ^ L)).g), some (.tup ((S (b * 2 ^ L)).w.map W.int)), some (.ref M), y5, y6] ∧ ∃ (s : Ms) (A : List Nat), Mh m j M s A t ∧ s.g = (S (b * 2 ^ L + i)).g ∧ s.w = (S (b * 2 ^ L + i)).w ∧ Only [] st t ∧ ∀ a ∈ A, st.length ≤ a)
    ⟨st.length, none, none, rfl, _, A1, M1, rfl, rfl, o1, f1⟩ (by
      rintro i w s0 t hw ⟨M, y5, y6, rfl, s, A, hM, hg, hws, ho, hA⟩
      have hi : i < r := by
        have := (List.getElem?_eq_some_iff.mp hw).1
        rwa [rngW_len] at this
      have hwv : w = .int ((b * 2 ^ L + i : Nat) : Int) := by
        have h2 := (List.getElem?_eq_some_iff.mp hw).2
        simp only [rngW, List.getElem_map, List.getElem_range] at h2
        rw [← h2]; congr 1
      subst hwv
      refine ⟨_, _, rfl, ?_⟩
      have hHA := h.a.only ho (by simp)
      obtain ⟨M', s', A', t', told', e1, hM', hg', hw', ho', hA', -, -⟩ := hF (b * 2 ^ L + i) (by omega) M s A t [] hHA hM hg hws (fun z => by have := hA H z; omega) (by simp)
      have hfs := ho.rd h.ob (by simp)
      have hrun : l0_History_machine [some (.ref H), some (.int (n : Int)), some (rgW (S (b * 2 ^ L)).g), some (.tup ((S (b * 2 ^ L)).w.map W.int)), some (.ref M), some (.int ((b * 2 ^ L + i : Nat) : Int)), y6] t = .nx [some (.ref H), some (.int (n : Int)), some (rgW (S (b * 2 ^ L)).g), some (.tup ((S (b * 2 ^ L)).w.map W.int)), some (.ref M'), some (.int ((b * 2 ^ L + i : Nat) : Int)), some (.tup (told'.map W.int))] t' := by
        simp only [List.map_nil] at e1
        generalize b * 2 ^ L + i = q at *
        unfold l0_History_machine
        simp [hfs, e1, sizeLine_eq]
      simp only [mGN, List.set]
      rw [hrun]
      refine ⟨M', _, _, rfl, s', A', hM', hg', hw', ?_, fun a ha => ?_⟩
      · have hl := ho.1
        exact ho.trans ho' (fun a ha hl => by have := hA a ha; omega)
      · rcases hA' a ha with z | z
        · exact hA a z
        · have := ho.1; omega)
  have hat : atI ((List.range (2 ^ (k - L))).map fun b => stGW (S (b * 2 ^ L))) (b : Int) = some (stGW (S (b * 2 ^ L))) := atI_nn (by omega) (by simp [hbl])
  have hnb' : (n : Int) / ((2 ^ L : Nat) : Int) = (b : Int) := by rw [hb]; omega
  have hmod : (n : Int) % ((2 ^ L : Nat) : Int) = (r : Int) := by rw [hr]; omega
  have hlo : (n : Int) - (r : Int) = ((b * 2 ^ L : Nat) : Int) := by omega
  rw [← hnb] at hg hw
  refine ⟨M, s, A, st2, ?_, hM, hg, hw, ho, hA⟩
  have hob := h.ob
  have hs1 := h.s1
  have hH1 := o1.rd h.ob (by simp)
  refine def_rt rfl ?_
  show b_History_machine [some (.ref H), some (.int (n : Int)), none, none, none, none, none] st = _
  unfold b_History_machine
  have hp0 : (0 : Int) < ((2 ^ L : Nat) : Int) := by omega
  have hlg : (((2 ^ L : Nat) : Int)).natAbs.log2 < 9000 := by
    have h1 : 2 ^ L ≤ 256 := pow8 (Nat.le_trans h.hL h.hk)
    exact log2_lt (by omega)
  have hlg2 : (2 ^ L).log2 < 9000 := by simpa using hlg
  generalize hP : 2 ^ L = P at *
  generalize ((List.range (2 ^ (k - L))).map fun b => stGW (S (b * P))) = Q at *
  refine seq_nx (s1 := [some (.ref H), some (.int (n : Int)), some (rgW (S (b * P)).g), some (.tup ((S (b * P)).w.map W.int)), none, none, none]) (st1 := st) (by
    have hp1 : 0 < P := hpL
    simp [hob, hs1, hp1, hlg2, hnb', hat]) ?_
  refine seq_nx (s1 := [some (.ref H), some (.int (n : Int)), some (rgW (S (b * P)).g), some (.tup ((S (b * P)).w.map W.int)), some (.ref st.length), none, none]) (st1 := st1) (by
    obtain ⟨fs, hc⟩ := c1
    simp [hob, em, hc]) ?_
  refine seq_nx (mFor_vals (rng2_nat (i := b * P) (n := r) (st1 := st1) (by
    have hp1 : 0 < P := hpL
    rw [← hnb]
    simp [hH1, hp1, hlg2, hmod, hlo]) (by omega)) (rngW_len _ r) hlp) ?_
  simp
end
end Gn

namespace Gn
open PySem L2 Mi
theorem dRow_snoc (D : Nat → Int) (a n : Nat) : dRow D a (n + 1) = dRow D a n ++ [D (a + n + 1)] := by unfold dRow; rw [List.range_succ, List.map_append]; rfl
section
variable {m : Int} {j H : Nat} {tw : W} {S : Nat → Ms} {k L a1 a2 a3 a4 : Nat} {e : W} {st : Sto}
/-- the digests of a range -/
theorem t_hrow (hm : 7 < m) (hm1 : m < 4611686018427387904) (h : HistC m j H tw S k L a1 a2 a3 a4 e st) (hF : FolH m j H tw S (2 ^ k)) (l x : Nat) (hl : l ≤ 8) (hx : (x + 1) * 2 ^ l ≤ 2 ^ k) :
    ∃ a st', m_History_row [.ref H, .int (l : Int), .int (x : Int)] st = .ok (.ref a) st' ∧ st'[a]? = some (.lst ((dRow (digS m S) (x * 2 ^ l) (2 ^ l)).map W.int)) ∧ Only [] st st' ∧ st.length ≤ a := by
  have h256 := pow8 h.hk
  have hpl := Nat.two_pow_pos l
  have hpl8 := pow8 hl
  have hx' : x * 2 ^ l + 2 ^ l ≤ 2 ^ k := by rw [← Nat.succ_mul]; exact hx
  obtain ⟨f, hf⟩ : ∃ f, f = x * 2 ^ l := ⟨_, rfl⟩
  rw [← hf] at hx' ⊢
  obtain ⟨M0, s0, A0, st1, e0, hM0, hg0, hw0, o0, hA0⟩ := t_hmachine hm (by omega) h hF f (by omega)
  obtain ⟨st2, hst2⟩ : ∃ st2, st2 = st1 ++ [Ob.lst []] := ⟨_, rfl⟩
  obtain ⟨R, hR⟩ : ∃ R, R = st1.length := ⟨_, rfl⟩
  have o12 : Only [] st1 st2 := by rw [hst2]; exact Only.app _ _ _
  have hM2 := hM0.only o12 (by simp) (by simp)
  have hl1 := o0.1
  have hlt0 := hM0.lt
  obtain ⟨s3, st3, hlp, M, y6, y7, rfl, s, A, hM, hg, hw, ho, hA, hRA, hRr⟩ := loop_st (ws := rngW (f : Int) (2 ^ l)) (g := mGN 6) (n := 2 ^ l) (s := [some (.ref H), some (.int (l : Int)), some (.int (x : Int)), some (.int (f : Int)), some (.ref M0), some (.ref R), none, none]) (st := st2) (body := l0_History_row) (rngW_len _ _)
    (fun i s0 t => ∃ (M : Nat) (y6 y7 : Option W), s0 = [some (.ref H), some (.int (l : Int)), some (.int (x : Int)), some (.int (f : Int)), some (.ref M), some (.ref R), y6, y7] ∧ ∃ (s : Ms) (A : List Nat), Mh m j M s A t ∧ s.g = (S (f + i)).g ∧ s.w = (S (f + i)).w ∧ Only [] st t ∧ (∀ a ∈ A, st.length ≤ a) ∧ R ∉ A ∧ t[R]? = some (.lst ((dRow (digS m S) f i).map W.int)))
    ⟨M0, none, none, rfl, s0, A0, hM2, hg0, hw0, o0.trans o12 (by simp), hA0, fun z => by have := hlt0 R z; omega, by rw [hst2, hR]; simp [dRow]⟩ (by
      rintro i w s0 t hw ⟨M, y6, y7, rfl, s, A, hM, hg, hws, ho, hA, hRA, hRr⟩
      have hi : i < 2 ^ l := by
        have := (List.getElem?_eq_some_iff.mp hw).1
        rwa [rngW_len] at this
      have hwv : w = .int ((f + i : Nat) : Int) := by
        have h2 := (List.getElem?_eq_some_iff.mp hw).2
        simp only [rngW, List.getElem_map, List.getElem_range] at h2
        rw [← h2]; congr 1
      subst hwv
      refine ⟨_, _, rfl, ?_⟩
      have hHA := h.a.only ho (by simp)
      obtain ⟨M', s', A', t', told', e1, hM', hg', hw', ho', hA', -, -⟩ := hF (f + i) (by omega) M s A t [] hHA hM hg hws (fun z => by have := hA H z; have := (List.getElem?_eq_some_iff.mp h.ob).1; omega) (by simp)
      have hfs := ho.rd h.ob (by simp)
      have e2 := hM'.digest hm hm1
      have hdd : digN m s'.g s'.w = digS m S (f + i + 1) := by rw [hg', hw']; rfl
      rw [hdd] at e2
      obtain ⟨c, hob'⟩ := hM'.obj
      have hRt := ho'.rd hRr hRA
      have hRlt := (List.getElem?_eq_some_iff.mp hRr).1
      have hRA' : R ∉ A' := fun z => (hA' R z).elim hRA (fun q => by omega)
      have hlen : (dRow (digS m S) f i).length = i := dRow_len _ _ _
      have hrun : l0_History_row [some (.ref H), some (.int (l : Int)), some (.int (x : Int)), some (.int (f : Int)), some (.ref M), some (.ref R), some (.int ((f + i : Nat) : Int)), y7] t = .nx [some (.ref H), some (.int (l : Int)), some (.int (x : Int)), some (.int (f : Int)), some (.ref M'), some (.ref R), some (.int ((f + i : Nat) : Int)), some (.tup (told'.map W.int))] (t'.set R (.lst ((dRow (digS m S) f (i + 1)).map W.int))) := by
        rw [dRow_snoc, List.map_append]
        simp only [List.map_nil] at e1
        have hsz : (dRow (digS m S) f i).length < 16777216 := by omega
        generalize dRow (digS m S) f i = RW at *
        generalize digS m S (f + i + 1) = DD at *
        generalize f + i = q at *
        unfold l0_History_row
        simp [hfs, e1, sizeLine_eq, hob', e2, hRt, hsz]
      simp only [mGN, List.set]
      rw [hrun]
      have oR : Only [R] t' (t'.set R (.lst ((dRow (digS m S) f (i + 1)).map W.int))) := Only.set (by simp)
      have hst1le : st.length ≤ R := by omega
      have ott : Only [] st t' := ho.trans ho' (fun a ha hl => by have := hA a ha; omega)
      refine ⟨M', _, _, rfl, s', A', hM'.only oR (fun a ha z => by simp only [List.mem_singleton] at z; subst z; exact hRA' ha) (by
        simp only [List.mem_singleton]
        intro z
        obtain ⟨o1, q1, q2⟩ := hM'.dig
        rw [z, hRt] at q1
        cases q1
        obtain ⟨_, q2⟩ := q2
        cases q2), hg', hw', ?_, fun a ha => ?_, hRA', ?_⟩
      · exact ott.trans oR (fun a ha hl => by simp only [List.mem_singleton] at ha; omega)
      · rcases hA' a ha with z | z
        · exact hA a z
        · have := ho.1; omega
      · rw [List.getElem?_set_self]
        have := ho'.1; omega)
  refine ⟨R, st3, ?_, hRr, ho, by omega⟩
  have hob := h.ob
  have hob1 := o0.rd h.ob (by simp)
  refine def_rt rfl ?_
  show b_History_row [some (.ref H), some (.int (l : Int)), some (.int (x : Int)), none, none, none, none, none] st = _
  unfold b_History_row
  have hsh : (x : Int) * 2 ^ l = (f : Int) := by rw [hf]; simp
  have hxa : x < 18446744073709551616 := by
    have : x * 1 ≤ x * 2 ^ l := Nat.mul_le_mul_left _ hpl
    omega
  have hl6 : (l : Int) ≤ 1000000 := by omega
  have hp2 : ((2 : Int) ^ l) = ((2 ^ l : Nat) : Int) := by simp
  refine seq_nx (s1 := [some (.ref H), some (.int (l : Int)), some (.int (x : Int)), some (.int (f : Int)), none, none, none, none]) (st1 := st) (by simp [hxa, hl6, hsh]) ?_
  refine seq_nx (s1 := [some (.ref H), some (.int (l : Int)), some (.int (x : Int)), some (.int (f : Int)), some (.ref M0), none, none, none]) (st1 := st1) (by simp [hob, e0]) ?_
  refine seq_nx (s1 := [some (.ref H), some (.int (l : Int)), some (.int (x : Int)), some (.int (f : Int)), some (.ref M0), some (.ref R), none, none]) (st1 := st2) (by rw [hst2, hR]; simp [sizeLine_eq]) ?_
  refine seq_nx (mFor_vals (rng2_nat (i := f) (n := 2 ^ l) (st1 := st2) (by
    simp [hl6]) (by omega)) (rngW_len _ _) hlp) ?_
  simp
end
end Gn

namespace Gn
open PySem L2 Mi
theorem cutH (xs : List W) (h k : Nat) : cutW xs (some (h : Int)) (some (k : Int)) = (xs.drop h).take (k - h) := by
  have z := HT.sIx_nat xs.length 0 h
  have z1 := HT.sIx_nat xs.length xs.length k
  unfold cutW
  rw [z, z1]
  by_cases hh : h ≤ xs.length
  · rw [Nat.min_eq_left hh]
    by_cases hk : k ≤ xs.length
    · rw [Nat.min_eq_left hk]
    · rw [Nat.min_eq_right (by omega), List.take_of_length_le (by simp), List.take_of_length_le (by simp; omega)]
  · have e1 : xs.drop h = [] := List.drop_of_length_le (by omega)
    have e2 : xs.drop (min h xs.length) = [] := List.drop_of_length_le (by omega)
    rw [e1, e2, List.take_nil, List.take_nil]
theorem rts_cut (m : Int) (D : Nat → Int) (L a n b c : Nat) (h : b + c ≤ n) : ((rtsOf m D L a n).drop b).take c = rtsOf m D L (a + b) c := by
  refine ext_gt (by rw [List.length_take, List.length_drop, rts_len, rts_len]; omega) fun k hk => ?_
  rw [List.length_take, List.length_drop, rts_len] at hk
  rw [rts_gt m D L (a + b) c (by omega)]
  have e : gt (((rtsOf m D L a n).drop b).take c) k = gt (rtsOf m D L a n) (b + k) := by simp [gt, List.getD, List.getElem?_take, show k < c by omega]
  rw [e, rts_gt m D L a n (by omega)]
  congr 3; omega
theorem digS_in {m : Int} (hm : 0 < m) (S : Nat → Ms) (i : Nat) : In m (digS m S i) := by
  unfold digS digN stateN
  exact ⟨Int.emod_nonneg _ (by omega), Int.emod_lt_of_pos _ hm⟩
theorem dRow_in {m : Int} (hm : 0 < m) (S : Nat → Ms) (a n : Nat) : ∀ x ∈ dRow (digS m S) a n, In m x := by
  intro x hx
  simp only [dRow, List.mem_map] at hx
  obtain ⟨t, _, rfl⟩ := hx
  exact digS_in hm S _
theorem rts_in {m : Int} (hm : 0 < m) (S : Nat → Ms) (L a n : Nat) : ∀ x ∈ rtsOf m (digS m S) L a n, In m x := by
  intro x hx
  simp only [rtsOf, List.mem_map] at hx
  obtain ⟨t, _, rfl⟩ := hx
  unfold rtN
  exact getD_in hm (lev_in _ _ _ (fun x y _ _ => in_fold hm x y) (dRow_in hm S _ _) L) 0
abbrev endW (m : Int) (S : Nat → Ms) (C : Nat) : W := .tup [.int (digS m S C), rgW (S C).g, .int (gt (lv m (S C).w 8) 0), .tup ((S C).t.map W.int)]
section
variable {m : Int} {j H : Nat} {tw : W} {S : Nat → Ms} {k L a1 a2 a3 a4 : Nat} {st : Sto}
theorem t_hdigest (hm : 7 < m) (hm1 : m < 4611686018427387904) (h : HistC m j H tw S k L a1 a2 a3 a4 (endW m S (2 ^ k)) st) (hF : FolH m j H tw S (2 ^ k)) (n : Nat) (hn : n ≤ 2 ^ k) :
    ∃ st', m_History_digest [.ref H, .int (n : Int)] st = .ok (.int (digS m S n)) st' ∧ Only [] st st' := by
  have hob := h.ob
  by_cases hc : n = 2 ^ k
  · subst hc
    refine ⟨st, ?_, Only.refl _ _⟩
    generalize 2 ^ k = C at *
    simp only [m_History_digest, b_History_digest]
    simp [hob]
  · obtain ⟨M, s, A, st', e, hM, hg, hw, ho, hA⟩ := t_hmachine hm (by omega) h hF n (by omega)
    have e2 := hM.digest hm hm1
    have hdd : digN m s.g s.w = digS m S n := by rw [hg, hw]; rfl
    rw [hdd] at e2
    obtain ⟨c, hM'⟩ := hM.obj
    have hc' : ¬ (n : Int) = ((2 ^ k : Nat) : Int) := by omega
    refine ⟨st', ?_, ho⟩
    generalize 2 ^ k = C at *
    refine def_rt rfl ?_
    show b_History_digest [some (.ref H), some (.int (n : Int))] st = _
    unfold b_History_digest
    refine seq_nx (s1 := [some (.ref H), some (.int (n : Int))]) (st1 := st) (by simp [-mEq, mEq_ii, hob, hc, hc']) ?_
    simp [hob, e, hM', e2]
theorem t_hroot (hm : 7 < m) (hm1 : m < 4611686018427387904) {e : W} (h : HistC m j H tw S k L a1 a2 a3 a4 e st) (hF : FolH m j H tw S (2 ^ k)) (l x : Nat) (hx : (x + 1) * 2 ^ l ≤ 2 ^ k) (hl : l ≤ k) :
    ∃ st', m_History_root [.ref H, .int (l : Int), .int (x : Int)] st = .ok (.int (rtN m (dRow (digS m S) (x * 2 ^ l) (2 ^ l)) l)) st' ∧ Only [] st st' := by
  have h0 : 0 < m := by omega
  have hob := h.ob
  have hk := h.hk
  by_cases hlL : l < L
  · obtain ⟨a, st1, e1, ha, o1, hla⟩ := t_hrow hm hm1 h hF l x (by omega) hx
    obtain ⟨st2, e2, o2⟩ := t_rootof h0 (by omega) (dRow_len (digS m S) (x * 2 ^ l) (2 ^ l)) (by omega) (dRow_in h0 S _ _) (.ref a) st1 (.inr (.inr ⟨a, rfl, ha⟩)) (h.dg.only o1 (by simp))
    have hob1 := o1.rd h.ob (by simp)
    have hlL' : (l : Int) < (L : Int) := by omega
    refine ⟨st2, ?_, o1.trans o2 (by simp)⟩
    generalize rtN m (dRow (digS m S) (x * 2 ^ l) (2 ^ l)) l = RT at *
    refine def_rt rfl ?_
    show b_History_root [some (.ref H), some (.int (l : Int)), some (.int (x : Int)), none] st = _
    unfold b_History_root
    refine seq_rt ?_
    simp [hob, hlL', e1, e2]
  · obtain ⟨q, hq⟩ : ∃ q, q = l - L := ⟨_, rfl⟩
    have hlq : l = L + q := by omega
    have hkq : x * 2 ^ q + 2 ^ q ≤ 2 ^ (k - L) := by
      rw [← Nat.succ_mul]
      have e1 : 2 ^ k = 2 ^ (k - L) * 2 ^ L := by rw [← Nat.pow_add]; congr 1; have := h.hL; omega
      rw [e1, hlq, Nat.pow_add, Nat.mul_comm (2 ^ L), ← Nat.mul_assoc] at hx
      exact Nat.le_of_mul_le_mul_right hx (Nat.two_pow_pos L)
    have hcut : cutW ((rtsOf m (digS m S) L 0 (2 ^ (k - L))).map W.int) (some ((x * 2 ^ q : Nat) : Int)) (some (((x + 1) * 2 ^ q : Nat) : Int)) = (rtsOf m (digS m S) L (x * 2 ^ q) (2 ^ q)).map W.int := by
      have e4 : (x + 1) * 2 ^ q - x * 2 ^ q = 2 ^ q := by rw [Nat.succ_mul]; exact Nat.add_sub_cancel_left ..
      rw [cutH, ← List.map_drop, ← List.map_take, e4, rts_cut m _ L 0 _ _ _ hkq, Nat.zero_add]
    obtain ⟨st2, e2, o2⟩ := t_rootof h0 (by omega) (rts_len m (digS m S) L (x * 2 ^ q) (2 ^ q)) (by omega) (rts_in h0 S _ _ _) (.lst ((rtsOf m (digS m S) L (x * 2 ^ q) (2 ^ q)).map W.int)) st (.inl rfl) h.dg
    have hrr := rt_rts m (digS m S) L x l (by omega)
    rw [← hq] at hrr
    rw [← hrr] at e2
    refine ⟨st2, ?_, o2⟩
    have hs2 := h.s2
    have hlL' : ¬ (l : Int) < (L : Int) := by omega
    have hsub : (l : Int) - (L : Int) = (q : Int) := by omega
    have hq6 : (q : Int) ≤ 1000000 := by omega
    have hpq := pow8 (show q ≤ 8 by omega)
    have x1 : ((x * 2 ^ q : Nat) : Int) = (x : Int) * ((2 ^ q : Nat) : Int) := by simp
    have x2 : (((x + 1) * 2 ^ q : Nat) : Int) = ((x : Int) + 1) * ((2 ^ q : Nat) : Int) := by simp
    have h256 := pow8 (show k - L ≤ 8 by omega)
    have hxs : x < 1000 := by
      have p1 := Nat.two_pow_pos q
      have : x * 1 ≤ x * 2 ^ q := Nat.mul_le_mul_left _ p1
      omega
    have m1 : mulOk (x : Int) ((2 ^ q : Nat) : Int) = true := mo_small _ _ (by omega)
    have m2 : mulOk ((x : Int) + 1) ((2 ^ q : Nat) : Int) = true := mo_small _ _ (by omega)
    rw [x1, x2] at hcut
    generalize rtN m (dRow (digS m S) (x * 2 ^ l) (2 ^ l)) l = RT at *
    generalize (rtsOf m (digS m S) L (x * 2 ^ q) (2 ^ q)).map W.int = PART at *
    generalize (rtsOf m (digS m S) L 0 (2 ^ (k - L))).map W.int = ALL at *
    refine def_rt rfl ?_
    show b_History_root [some (.ref H), some (.int (l : Int)), some (.int (x : Int)), none] st = _
    unfold b_History_root
    refine seq_nx (s1 := [some (.ref H), some (.int (l : Int)), some (.int (x : Int)), none]) (st1 := st) (by simp [hob, hlL']) ?_
    refine seq_nx (s1 := [some (.ref H), some (.int (l : Int)), some (.int (x : Int)), some (.int ((2 ^ q : Nat) : Int))]) (st1 := st) (by simp [hob, hsub, hq6]) ?_
    generalize 2 ^ q = P at *
    simp [-mulOk, hob, hs2, m1, m2, hcut, e2]
end
end Gn

namespace Gn
open PySem L2 Mi
theorem paN_len (m : Int) (row : List Int) (n p : Nat) : (paN m row n p).length = n := by simp [paN]
section
variable {m : Int} {j H : Nat} {tw : W} {S : Nat → Ms} {k L a1 a2 a3 a4 : Nat} {st : Sto}
theorem t_hlastpath (hm : 7 < m) (hm1 : m < 4611686018427387904) {e : W} (h : HistC m j H tw S k L a1 a2 a3 a4 e st) (hF : FolH m j H tw S (2 ^ k)) (l x : Nat) (hx : (x + 1) * 2 ^ l ≤ 2 ^ k) (hl : l ≤ k) :
    ∃ st', m_History_last_path [.ref H, .int (l : Int), .int (x : Int)] st = .ok (.tup ((paN m (dRow (digS m S) (x * 2 ^ l) (2 ^ l)) l (2 ^ l - 1)).map W.int)) st' ∧ Only [] st st' := by
  have h0 : 0 < m := by omega
  have hob := h.ob
  have hk := h.hk
  by_cases hlL : l ≤ L
  · obtain ⟨a, st1, e1, ha, o1, hla⟩ := t_hrow hm hm1 h hF l x (by omega) hx
    have hp := Nat.two_pow_pos l
    obtain ⟨st2, e2, o2⟩ := t_pathof h0 (by omega) (dRow_len (digS m S) (x * 2 ^ l) (2 ^ l)) (by omega) (dRow_in h0 S _ _) (2 ^ l - 1) (by omega) (.ref a) st1 (.inr ⟨a, rfl, ha⟩) (h.dg.only o1 (by simp))
    have hob1 := o1.rd h.ob (by simp)
    have hlL' : (l : Int) ≤ (L : Int) := by omega
    have hlen := dRow_len (digS m S) (x * 2 ^ l) (2 ^ l)
    have hp8 := pow8 (show l ≤ 8 by omega)
    have hsz : 2 ^ l ≤ 16777216 := by omega
    refine ⟨st2, ?_, o1.trans o2 (by simp)⟩
    generalize (paN m (dRow (digS m S) (x * 2 ^ l) (2 ^ l)) l (2 ^ l - 1)).map W.int = PA at *
    generalize dRow (digS m S) (x * 2 ^ l) (2 ^ l) = RW at *
    generalize hP : 2 ^ l = P at *
    have hp1 : ((P : Nat) : Int) - 1 = ((P - 1 : Nat) : Int) := by omega
    refine def_rt rfl ?_
    show b_History_last_path [some (.ref H), some (.int (l : Int)), some (.int (x : Int)), none, none, none] st = _
    unfold b_History_last_path
    refine seq_rt ?_
    simp [hob, hlL', e1, hob1, ha, sizeLine_eq, hlen, hsz, hp1, e2]
  · obtain ⟨q, hq⟩ : ∃ q, q = l - L := ⟨_, rfl⟩
    have hlq : l = L + q := by omega
    have hpq0 := Nat.two_pow_pos q
    have hpL0 := Nat.two_pow_pos L
    have hkq : x * 2 ^ q + 2 ^ q ≤ 2 ^ (k - L) := by
      rw [← Nat.succ_mul]
      have e1 : 2 ^ k = 2 ^ (k - L) * 2 ^ L := by rw [← Nat.pow_add]; congr 1; have := h.hL; omega
      rw [e1, hlq, Nat.pow_add, Nat.mul_comm (2 ^ L), ← Nat.mul_assoc] at hx
      exact Nat.le_of_mul_le_mul_right hx (Nat.two_pow_pos L)
    obtain ⟨b, hb⟩ : ∃ b, b = x * 2 ^ q + (2 ^ q - 1) := ⟨_, rfl⟩
    have hb1 : b + 1 = (x + 1) * 2 ^ q := by rw [hb, Nat.succ_mul]; omega
    have hbk : (b + 1) * 2 ^ L ≤ 2 ^ k := by
      rw [hb1]
      have : (x + 1) * 2 ^ q * 2 ^ L = (x + 1) * 2 ^ l := by rw [hlq, Nat.pow_add, Nat.mul_comm (2 ^ L), Nat.mul_assoc]
      rw [this]; exact hx
    have hcut : cutW ((rtsOf m (digS m S) L 0 (2 ^ (k - L))).map W.int) (some ((x * 2 ^ q : Nat) : Int)) (some (((x + 1) * 2 ^ q : Nat) : Int)) = (rtsOf m (digS m S) L (x * 2 ^ q) (2 ^ q)).map W.int := by
      have e4 : (x + 1) * 2 ^ q - x * 2 ^ q = 2 ^ q := by rw [Nat.succ_mul]; exact Nat.add_sub_cancel_left ..
      rw [cutH, ← List.map_drop, ← List.map_take, e4, rts_cut m _ L 0 _ _ _ hkq, Nat.zero_add]
    obtain ⟨a, st1, e1, ha, o1, hla⟩ := t_hrow hm hm1 h hF L b (by have := h.hL; omega) hbk
    obtain ⟨st2, e2, o2⟩ := t_pathof h0 (by omega) (dRow_len (digS m S) (b * 2 ^ L) (2 ^ L)) (by have := h.hL; omega) (dRow_in h0 S _ _) (2 ^ L - 1) (by omega) (.ref a) st1 (.inr ⟨a, rfl, ha⟩) (h.dg.only o1 (by simp))
    have o12 := o1.trans o2 (by simp)
    obtain ⟨st3, e3, o3⟩ := t_pathof h0 (by omega) (rts_len m (digS m S) L (x * 2 ^ q) (2 ^ q)) (by omega) (rts_in h0 S _ _ _) (2 ^ q - 1) (by omega) (.lst ((rtsOf m (digS m S) L (x * 2 ^ q) (2 ^ q)).map W.int)) st2 (.inl rfl) (h.dg.only o12 (by simp))
    have hpa := pa_rts m (digS m S) L x l (by omega)
    rw [← hq, ← hb] at hpa
    rw [hpa, List.map_append]
    refine ⟨st3, ?_, o12.trans o3 (by simp)⟩
    have hob1 := o1.rd h.ob (by simp)
    have hob2 := o12.rd h.ob (by simp)
    have hs2 := h.s2
    have hlL' : ¬ (l : Int) ≤ (L : Int) := by omega
    have hsub : (l : Int) - (L : Int) = (q : Int) := by omega
    have hq6 : (q : Int) ≤ 1000000 := by omega
    have hpq := pow8 (show q ≤ 8 by omega)
    have hpL := pow8 (show L ≤ 8 by have := h.hL; omega)
    have x1 : ((x * 2 ^ q : Nat) : Int) = (x : Int) * ((2 ^ q : Nat) : Int) := by simp
    have x2 : (((x + 1) * 2 ^ q : Nat) : Int) = ((x : Int) + 1) * ((2 ^ q : Nat) : Int) := by simp
    have x3 : ((x : Int) + 1) * ((2 ^ q : Nat) : Int) - 1 = (b : Int) := by rw [← x2, ← hb1]; omega
    have h256 := pow8 (show k - L ≤ 8 by omega)
    have hxs : x < 1000 := by
      have : x * 1 ≤ x * 2 ^ q := Nat.mul_le_mul_left _ hpq0
      omega
    have m1 : mulOk (x : Int) ((2 ^ q : Nat) : Int) = true := mo_small _ _ (by omega)
    have m2 : mulOk ((x : Int) + 1) ((2 ^ q : Nat) : Int) = true := mo_small _ _ (by omega)
    rw [x1, x2] at hcut
    have hlen := dRow_len (digS m S) (b * 2 ^ L) (2 ^ L)
    have z1 : ((paN m (dRow (digS m S) (b * 2 ^ L) (2 ^ L)) L (2 ^ L - 1)).map W.int).length = L := by rw [List.length_map, paN_len]
    have z2 : ((paN m (rtsOf m (digS m S) L (x * 2 ^ q) (2 ^ q)) q (2 ^ q - 1)).map W.int).length = q := by rw [List.length_map, paN_len]
    have hz : L + q ≤ 16777216 := by omega
    have hszL : 2 ^ L ≤ 16777216 := by omega
    generalize (paN m (dRow (digS m S) (b * 2 ^ L) (2 ^ L)) L (2 ^ L - 1)).map W.int = P1 at *
    generalize (paN m (rtsOf m (digS m S) L (x * 2 ^ q) (2 ^ q)) q (2 ^ q - 1)).map W.int = P2 at *
    generalize dRow (digS m S) (b * 2 ^ L) (2 ^ L) = RW at *
    generalize (rtsOf m (digS m S) L (x * 2 ^ q) (2 ^ q)).map W.int = PART at *
    generalize (rtsOf m (digS m S) L 0 (2 ^ (k - L))).map W.int = ALL at *
    refine def_rt rfl ?_
    show b_History_last_path [some (.ref H), some (.int (l : Int)), some (.int (x : Int)), none, none, none] st = _
    unfold b_History_last_path
    refine seq_nx (s1 := [some (.ref H), some (.int (l : Int)), some (.int (x : Int)), none, none, none]) (st1 := st) (by simp [hob, hlL']) ?_
    refine seq_nx (s1 := [some (.ref H), some (.int (l : Int)), some (.int (x : Int)), none, some (.int ((2 ^ q : Nat) : Int)), none]) (st1 := st) (by simp [hob, hsub, hq6]) ?_
    generalize hP : 2 ^ q = P at *
    generalize hPL : 2 ^ L = PL at *
    have hp1 : ((P : Nat) : Int) - 1 = ((P - 1 : Nat) : Int) := by omega
    have hp2 : ((PL : Nat) : Int) - 1 = ((PL - 1 : Nat) : Int) := by omega
    refine seq_nx (s1 := [some (.ref H), some (.int (l : Int)), some (.int (x : Int)), none, some (.int ((P : Nat) : Int)), some (.lst PART)]) (st1 := st) (by simp [-mulOk, hob, hs2, m1, m2, hcut]) ?_
    refine seq_nx (s1 := [some (.ref H), some (.int (l : Int)), some (.int (x : Int)), some (.ref a), some (.int ((P : Nat) : Int)), some (.lst PART)]) (st1 := st1) (by simp [-mulOk, hob, m2, x3, e1]) ?_
    simp [hob1, ha, sizeLine_eq, hlen, hszL, hp2, e2, hob2, hp1, e3, z1, z2, hz]
end
end Gn

namespace Gn
open PySem L2 Mi
/-- a part as a value -/
def prt (a : Int) (p : List Int) : W := .tup [.int a, .tup (p.map W.int)]
end Gn

namespace Gn
open PySem L2 Mi
/-! ### the opening of a machine's state -/
def hasO (s : Ms) : Prop := (nOf s.g s.w = 4 ∨ nOf s.g s.w = 6 ∨ nOf s.g s.w = 26) ∨ Asks (nOf s.g s.w)
instance (s : Ms) : Decidable (hasO s) := by unfold hasO; infer_instance
def plN (s : Ms) : Nat := (plB (nOf s.g s.w) (aOf s.g s.w) s.g.x).toNat
def opParts (m : Int) (s : Ms) : List (Int × List Int) :=
  if s.g.mrk = 0 then (gt s.w s.g.pc.toNat, pathN m s.w s.g.pc.toNat) :: (if hasO s then [(gt s.w (plN s), pathN m s.w (plN s))] else []) else []
abbrev openW (m : Int) (s : Ms) : W := .tup [rgW s.g, .int (gt (lv m s.w 8) 0), .tup ((opParts m s).map fun q => prt q.1 q.2)]
theorem t_opened {m : Int} {j M : Nat} {s : Ms} {A : List Nat} {st : Sto} (h : Mh m j M s A st) : ∃ st', m_opened [.ref M] st = .ok (openW m s) st' ∧ Only [] st st' := by
  have r1 := h.regs
  obtain ⟨e0, c0⟩ := h.obj
  have ho := h.ok
  have hpc : s.g.pc = (s.g.pc.toNat : Int) := by have := ho.go.pc.1; omega
  have hpl : s.g.pc.toNat < 256 := by have := ho.go.pc; omega
  have pin := plB_in (nOf s.g s.w) (aOf s.g s.w) s.g.x
  have hplb : plB (nOf s.g s.w) (aOf s.g s.w) s.g.x = ((plN s : Nat) : Int) := by unfold plN; omega
  have hpl2 : plN s < 256 := by unfold plN; omega
  by_cases hk : s.g.mrk = 0
  · have e1 := h.word s.g.pc.toNat hpl
    have e2 := h.path s.g.pc.toNat hpl
    rw [← hpc] at e1 e2
    generalize hS1 : st ++ [Ob.lst ((pathN m s.w s.g.pc.toNat).map W.int)] = st1 at e2
    have o1 : Only [] st st1 := by rw [← hS1]; exact Only.app _ _ _
    have h1 := h.only o1 (by simp) (by simp)
    obtain ⟨e01, c1⟩ := h1.obj
    have hwd : Word (gt s.w s.g.pc.toNat) := gt_word ho.ww _
    have hn : gt s.w s.g.pc.toNat / 1024 = (nOf s.g s.w : Int) := by have := hwd.1; unfold nOf; omega
    have ha : gt s.w s.g.pc.toNat % 1024 = (aOf s.g s.w : Int) := by unfold aOf; omega
    have hdo := t_data_of (gt s.w s.g.pc.toNat) (nOf s.g s.w) (aOf s.g s.w) hn ha (.int s.g.pc) (.int s.g.acc) (.int s.g.mrk) (.int s.g.out) (.int s.g.cnt) s.g.x st1
    by_cases hh : hasO s
    · have hda : ∃ b, daW (nOf s.g s.w) (aOf s.g s.w) s.g.x = .tup [.int ((plN s : Nat) : Int), .bl b] := by
        unfold hasO at hh
        unfold daW
        by_cases h4 : nOf s.g s.w = 4 ∨ nOf s.g s.w = 6 ∨ nOf s.g s.w = 26
        · rw [if_pos h4, hplb]; exact ⟨_, rfl⟩
        · rw [if_neg h4, if_pos (hh.resolve_left h4), hplb]; exact ⟨_, rfl⟩
      obtain ⟨b, hda⟩ := hda
      rw [hda] at hdo
      have e3 := h1.word (plN s) hpl2
      have e4 := h1.path (plN s) hpl2
      generalize hS2 : st1 ++ [Ob.lst ((pathN m s.w (plN s)).map W.int)] = st2 at e4
      have o2 : Only [] st1 st2 := by rw [← hS2]; exact Only.app _ _ _
      have h2 := h1.only o2 (by simp) (by simp)
      obtain ⟨e02, c2⟩ := h2.obj
      have e5 := h2.root
      refine ⟨st2, ?_, o1.trans o2 (by simp)⟩
      have hop : opParts m s = [(gt s.w s.g.pc.toNat, pathN m s.w s.g.pc.toNat), (gt s.w (plN s), pathN m s.w (plN s))] := by simp only [opParts, hk, hh, if_true]
      rw [openW, hop]
      simp only [List.map_cons, List.map_nil, prt]
      generalize (pathN m s.w (plN s)).map W.int = V2 at *
      generalize (pathN m s.w s.g.pc.toNat).map W.int = V1 at *
      refine def_rt rfl ?_
      show b_opened [some (.ref M), none, none, none, none] st = _
      unfold b_opened
      refine seq_nx (by simp [c0, r1]; exact ⟨rfl, rfl⟩) ?_
      refine seq_nx (by simp [sizeLine_eq]; exact ⟨rfl, rfl⟩) ?_
      refine seq_nx (by simp [-mEq, mEq_ii, hk, c0, e1, e2, hdo, c1, e3, e4, sizeLine_eq]; exact ⟨rfl, rfl⟩) ?_
      simp [c2, e5, sizeLine_eq]
    · have hda : daW (nOf s.g s.w) (aOf s.g s.w) s.g.x = .non := by
        unfold hasO at hh
        unfold daW
        rw [if_neg (fun z => hh (.inl z)), if_neg (fun z => hh (.inr z))]
      rw [hda] at hdo
      have e5 := h1.root
      refine ⟨st1, ?_, o1⟩
      have hop : opParts m s = [(gt s.w s.g.pc.toNat, pathN m s.w s.g.pc.toNat)] := by simp only [opParts, hk, hh, if_true, if_false]
      rw [openW, hop]
      simp only [List.map_cons, List.map_nil, prt]
      generalize (pathN m s.w s.g.pc.toNat).map W.int = V1 at *
      refine def_rt rfl ?_
      show b_opened [some (.ref M), none, none, none, none] st = _
      unfold b_opened
      refine seq_nx (by simp [c0, r1]; exact ⟨rfl, rfl⟩) ?_
      refine seq_nx (by simp [sizeLine_eq]; exact ⟨rfl, rfl⟩) ?_
      refine seq_nx (by simp [-mEq, mEq_ii, hk, c0, e1, e2, hdo, c1, sizeLine_eq]; exact ⟨rfl, rfl⟩) ?_
      simp [c1, e5, sizeLine_eq]
  · have e5 := h.root
    refine ⟨st, ?_, Only.refl _ _⟩
    have hop : opParts m s = [] := by simp only [opParts, hk, if_false]
    rw [openW, hop]
    simp only [List.map_nil]
    refine def_rt rfl ?_
    show b_opened [some (.ref M), none, none, none, none] st = _
    unfold b_opened
    refine seq_nx (by simp [c0, r1]; exact ⟨rfl, rfl⟩) ?_
    refine seq_nx (by simp [sizeLine_eq]; exact ⟨rfl, rfl⟩) ?_
    refine seq_nx (by simp [-mEq, mEq_ii, hk]; exact ⟨rfl, rfl⟩) ?_
    simp [c0, e5, sizeLine_eq]
end Gn

namespace Gn
open PySem L2 Mi
theorem find_snoc {κ : Type} [DecidableEq κ] (k j : κ) (v : W) : ∀ kvs : List (κ × W), (∀ p ∈ kvs, p.1 ≠ k) → valW (kvs ++ [(k, v)]) j = if j = k then some v else valW kvs j
  | [], _ => by
    unfold valW
    by_cases h : j = k
    · subst h; simp
    · simp [h, Ne.symm h]
  | p :: kvs, hp => by
    have ih := find_snoc k j v kvs (fun q hq => hp q (List.mem_cons_of_mem _ hq))
    unfold valW at ih ⊢
    rw [List.cons_append, List.find?_cons, List.find?_cons]
    by_cases h : p.1 = j
    · have hk : j ≠ k := by rw [← h]; exact hp p (List.mem_cons_self ..)
      simp [h, hk]
    · simp only [h, decide_false]
      exact ih
/-- a key that is new -/
theorem put_new {κ : Type} [DecidableEq κ] {kvs : List (κ × W)} {k : κ} (v : W) (h : valW kvs k = none) : putKW kvs k v = kvs ++ [(k, v)] ∧ ∀ j, valW (kvs ++ [(k, v)]) j = if j = k then some v else valW kvs j := by
  have hn : ∀ p ∈ kvs, p.1 ≠ k := by
    intro p hp e
    unfold valW at h
    rw [Option.map_eq_none_iff, List.find?_eq_none] at h
    exact h p hp (by simp [e])
  refine ⟨?_, fun j => find_snoc k j v kvs hn⟩
  unfold putKW
  rw [if_neg]
  intro e
  obtain ⟨p, hp, e⟩ := List.any_eq_true.mp e
  exact hn p hp (by simpa using e)
theorem openW_gw {m : Int} {s s' : Ms} (hg : s.g = s'.g) (hw : s.w = s'.w) : openW m s = openW m s' := by
  obtain ⟨g, t, w⟩ := s
  obtain ⟨g', t', w'⟩ := s'
  cases hg
  cases hw
  rfl
/-- what the openings that are kept are -/
def OpK (m : Int) (S : Nat → Ms) (kvs : List (Key × W)) : Prop := ∀ (i : Nat) w, valW kvs (.inl (i : Int)) = some w → w = openW m (S i)
section
variable {m : Int} {j H : Nat} {tw : W} {S : Nat → Ms} {k L a1 a2 a3 a4 : Nat} {e : W} {st : Sto}
theorem t_hopening (hm : 7 < m) (hm1 : m < 4611686018427387904) (h : HistC m j H tw S k L a1 a2 a3 a4 e st) (hF : FolH m j H tw S (2 ^ k)) {kvs : List (Key × W)} (h4 : st[a4]? = some (.dK kvs)) (hO : OpK m S kvs) (hz : kvs.length ≤ 100000) (hH4 : H ≠ a4) (n : Nat) (hn : n < 2 ^ k) :
    ∃ st' kvs', m_History_opening [.ref H, .int (n : Int)] st = .ok (openW m (S n)) st' ∧ Only [a4] st st' ∧ st'[a4]? = some (.dK kvs') ∧ OpK m S kvs' ∧ kvs'.length ≤ kvs.length + 1 := by
  have hob := h.ob
  rcases Classical.em (∃ w, valW kvs (.inl (n : Int)) = some w) with hv | hv
  · obtain ⟨w, hv⟩ := hv
    have hw := hO n w hv
    subst hw
    refine ⟨st, kvs, ?_, Only.refl _ _, h4, hO, by omega⟩
    generalize openW m (S n) = O at *
    refine def_rt rfl ?_
    show b_History_opening [some (.ref H), some (.int (n : Int))] st = _
    unfold b_History_opening
    refine seq_nx (s1 := [some (.ref H), some (.int (n : Int))]) (st1 := st) (by simp [hob, h4, hv]) ?_
    simp [hob, h4, hv]
  · have hv0 : valW kvs (.inl (n : Int)) = none := by
      cases hx : valW kvs (.inl (n : Int)) with
      | none => rfl
      | some w => exact absurd ⟨w, hx⟩ hv
    obtain ⟨M, s, A, st1, e1, hM, hg, hw, o1, hA⟩ := t_hmachine hm (by omega) h hF n hn
    obtain ⟨st2, e2, o2⟩ := t_opened hM
    rw [openW_gw hg hw] at e2
    have o12 := o1.trans o2 (by simp)
    have hob1 := o1.rd h.ob (by simp)
    have hob2 := o12.rd h.ob (by simp)
    have h42 := o12.rd h4 (by simp)
    obtain ⟨p1, p2⟩ := put_new (openW m (S n)) hv0
    have hlt : a4 < st2.length := (List.getElem?_eq_some_iff.mp h42).1
    have hsz : kvs.length < 16777216 := by omega
    refine ⟨st2.set a4 (.dK (kvs ++ [(.inl (n : Int), openW m (S n))])), _, ?_, (o12.mono (by simp)).trans (Only.set (A := [a4]) (by simp)) (by intro i hi _; exact hi), List.getElem?_set_self hlt, ?_, by simp⟩
    · have hv2 : valW (kvs ++ [((.inl (n : Int) : Key), openW m (S n))]) (.inl (n : Int)) = some (openW m (S n)) := by rw [p2, if_pos rfl]
      have hob3 : ∀ o, (st2.set a4 o)[H]? = some (.ins 4 (histF j tw (2 ^ k) L (2 ^ L) a1 a2 a3 a4 e)) := fun o => by rw [List.getElem?_set_ne (Ne.symm hH4)]; exact hob2
      have h43 : ∀ o, (st2.set a4 o)[a4]? = some o := fun o => List.getElem?_set_self hlt
      generalize openW m (S n) = O at *
      refine def_rt rfl ?_
      show b_History_opening [some (.ref H), some (.int (n : Int))] st = _
      unfold b_History_opening
      refine seq_nx (s1 := [some (.ref H), some (.int (n : Int))]) (st1 := st2.set a4 (.dK (kvs ++ [(.inl (n : Int), O)]))) (by simp [hob, h4, hv0, e1, e2, hob2, h42, sizeLine_eq, hsz, p1]) ?_
      simp [hob3, h43, hv2]
    · intro i w hw
      rw [p2] at hw
      split at hw
      · rename_i hi
        cases hw
        have : i = n := by
          injection hi with hi
          omega
        rw [this]
      · exact hO i w hw
end
end Gn

namespace Gn
open PySem L2 Mi
/-- the halves of a range, with the last digest of the first one and its path -/
abbrev halfW (m : Int) (S : Nat → Ms) (l x : Nat) : W := .tup [.int (rtN m (dRow (digS m S) (2 * x * 2 ^ l) (2 ^ l)) l), .int (rtN m (dRow (digS m S) ((2 * x + 1) * 2 ^ l) (2 ^ l)) l), .int (digS m S ((2 * x + 1) * 2 ^ l)), .tup ((paN m (dRow (digS m S) (2 * x * 2 ^ l) (2 ^ l)) l (2 ^ l - 1)).map W.int)]
/-- what the halves that are kept are -/
def HaK (m : Int) (S : Nat → Ms) (kvs : List (List Key × W)) : Prop := ∀ (l x : Nat) w, valW kvs [.inl ((l + 1 : Nat) : Int), .inl (x : Int)] = some w → w = halfW m S l x
section
variable {m : Int} {j H : Nat} {tw : W} {S : Nat → Ms} {k L a1 a2 a3 a4 : Nat} {st : Sto}
theorem t_hhalves (hm : 7 < m) (hm1 : m < 4611686018427387904) (h : HistC m j H tw S k L a1 a2 a3 a4 (endW m S (2 ^ k)) st) (hF : FolH m j H tw S (2 ^ k)) {kvs : List (List Key × W)} (h3 : st[a3]? = some (.dT kvs)) (hO : HaK m S kvs) (hz : kvs.length ≤ 100000) (hH3 : H ≠ a3) (l x : Nat) (hl : l + 1 ≤ k) (hx : (x + 1) * 2 ^ (l + 1) ≤ 2 ^ k) :
    ∃ st' kvs', m_History_halves [.ref H, .int ((l + 1 : Nat) : Int), .int (x : Int)] st = .ok (halfW m S l x) st' ∧ Only [a3] st st' ∧ st'[a3]? = some (.dT kvs') ∧ HaK m S kvs' ∧ kvs'.length ≤ kvs.length + 1 := by
  have hob := h.ob
  rcases Classical.em (∃ w, valW kvs [.inl ((l + 1 : Nat) : Int), .inl (x : Int)] = some w) with hv | hv
  · obtain ⟨w, hv⟩ := hv
    have hw := hO l x w hv
    subst hw
    refine ⟨st, kvs, ?_, Only.refl _ _, h3, hO, by omega⟩
    generalize halfW m S l x = O at *
    generalize ((l + 1 : Nat) : Int) = ll at *
    refine def_rt rfl ?_
    show b_History_halves [some (.ref H), some (.int ll), some (.int (x : Int)), none, none, none] st = _
    unfold b_History_halves
    refine seq_nx (s1 := [some (.ref H), some (.int ll), some (.int (x : Int)), none, none, none]) (st1 := st) (by simp [hob, h3, hv, keysT, sizeLine_eq]) ?_
    simp [hob, h3, hv, keysT, sizeLine_eq]
  · have hv0 : valW kvs [.inl ((l + 1 : Nat) : Int), .inl (x : Int)] = none := by
      cases hx : valW kvs [.inl ((l + 1 : Nat) : Int), .inl (x : Int)] with
      | none => rfl
      | some w => exact absurd ⟨w, hx⟩ hv
    have hpl := Nat.two_pow_pos l
    have e0 : (x + 1) * 2 ^ (l + 1) = (2 * x + 1 + 1) * 2 ^ l := by rw [Nat.pow_succ, Nat.mul_comm (2 ^ l), ← Nat.mul_assoc]; congr 1; omega
    have e1 : (2 * x + 1 + 1) * 2 ^ l = (2 * x + 1) * 2 ^ l + 2 ^ l := Nat.succ_mul _ _
    have hx2 : (2 * x + 1 + 1) * 2 ^ l ≤ 2 ^ k := by omega
    have hx1 : (2 * x + 1) * 2 ^ l ≤ 2 ^ k := by omega
    obtain ⟨s1, f1, o1⟩ := t_hroot hm hm1 h hF l (2 * x) hx1 (by omega)
    have h1 := h.only o1 (by simp)
    obtain ⟨s2, f2, o2⟩ := t_hroot hm hm1 h1 hF l (2 * x + 1) hx2 (by omega)
    have h2 := h1.only o2 (by simp)
    obtain ⟨s3, f3, o3⟩ := t_hdigest hm hm1 h2 hF ((2 * x + 1) * 2 ^ l) hx1
    have h33 := h2.only o3 (by simp)
    obtain ⟨s4, f4, o4⟩ := t_hlastpath hm hm1 h33 hF l (2 * x) hx1 (by omega)
    have h4 := h33.only o4 (by simp)
    have o14 := ((o1.trans o2 (by simp)).trans o3 (by simp)).trans o4 (by simp)
    have h34 := o14.rd h3 (by simp)
    have hlt : a3 < s4.length := (List.getElem?_eq_some_iff.mp h34).1
    have hsz : kvs.length < 16777216 := by omega
    obtain ⟨p1, p2⟩ := put_new (halfW m S l x) hv0
    refine ⟨s4.set a3 (.dT (kvs ++ [([.inl ((l + 1 : Nat) : Int), .inl (x : Int)], halfW m S l x)])), _, ?_, (o14.mono (by simp)).trans (Only.set (A := [a3]) (by simp)) (by intro i hi _; exact hi), List.getElem?_set_self hlt, ?_, by simp⟩
    · have hv2 := p2 [.inl ((l + 1 : Nat) : Int), .inl (x : Int)]
      rw [if_pos rfl] at hv2
      have hobF : ∀ o, (s4.set a3 o)[H]? = some (.ins 4 (histF j tw (2 ^ k) L (2 ^ L) a1 a2 a3 a4 (endW m S (2 ^ k)))) := fun o => by rw [List.getElem?_set_ne (Ne.symm hH3)]; exact h4.ob
      have h3F : ∀ o, (s4.set a3 o)[a3]? = some o := fun o => List.getElem?_set_self hlt
      have g1 := h1.ob
      have g2 := h2.ob
      have g3 := h33.ob
      have g4 := h4.ob
      have hll : ((l + 1 : Nat) : Int) - 1 = (l : Int) := by omega
      have c1 : ((2 * x : Nat) : Int) = 2 * (x : Int) := by omega
      have c2 : ((2 * x + 1 : Nat) : Int) = 2 * (x : Int) + 1 := by omega
      have c3 : (((2 * x + 1) * 2 ^ l : Nat) : Int) = (2 * (x : Int) + 1) * 2 ^ l := by simp
      rw [c1] at f1 f4
      rw [c2] at f2
      rw [c3] at f3
      have h256 := pow8 h.hk
      have hxs : x < 1000 := by
        have : (2 * x + 1) * 1 ≤ (2 * x + 1) * 2 ^ l := Nat.mul_le_mul_left _ hpl
        omega
      have m1 : mulOk 2 (x : Int) = true := mo_small _ _ (by omega)
      have hl6 : (l : Int) ≤ 1000000 := by have := h.hk; omega
      have hna : (2 * (x : Int) + 1).natAbs < 18446744073709551616 := by omega
      have hhalf : halfW m S l x = .tup [.int (rtN m (dRow (digS m S) (2 * x * 2 ^ l) (2 ^ l)) l), .int (rtN m (dRow (digS m S) ((2 * x + 1) * 2 ^ l) (2 ^ l)) l), .int (digS m S ((2 * x + 1) * 2 ^ l)), .tup ((paN m (dRow (digS m S) (2 * x * 2 ^ l) (2 ^ l)) l (2 ^ l - 1)).map W.int)] := rfl
      rw [hhalf] at p1 hv2 ⊢
      generalize rtN m (dRow (digS m S) (2 * x * 2 ^ l) (2 ^ l)) l = R1 at *
      generalize rtN m (dRow (digS m S) ((2 * x + 1) * 2 ^ l) (2 ^ l)) l = R2 at *
      generalize digS m S ((2 * x + 1) * 2 ^ l) = DD at *
      generalize (paN m (dRow (digS m S) (2 * x * 2 ^ l) (2 ^ l)) l (2 ^ l - 1)).map W.int = PA at *
      generalize endW m S (2 ^ k) = EW at *
      generalize ((l + 1 : Nat) : Int) = ll at *
      refine def_rt rfl ?_
      show b_History_halves [some (.ref H), some (.int ll), some (.int (x : Int)), none, none, none] st = _
      unfold b_History_halves
      refine seq_nx (s1 := [some (.ref H), some (.int ll), some (.int (x : Int)), some (.int R1), some (.int R2), some (.int DD)]) (st1 := s4.set a3 (.dT (kvs ++ [([.inl ll, .inl (x : Int)], .tup [.int R1, .int R2, .int DD, .tup PA])]))) (by
        simp [-mulOk, hob, h3, hv0, keysT, sizeLine_eq, hll, m1, f1, g1, f2, g2, hl6, hna, f3, g3, f4, g4, h34, hsz, p1]) ?_
      simp [hobF, h3F, hv2, keysT, sizeLine_eq]
    · intro l' x' w hw
      rw [p2] at hw
      split at hw
      · rename_i hi
        cases hw
        simp only [List.cons.injEq, Sum.inl.injEq, and_true] at hi
        have a : l' = l := by omega
        have b : x' = x := by omega
        rw [a, b]
      · exact hO l' x' w hw
end
end Gn

namespace Gn
open PySem L2 Mi
theorem bits_pow : ∀ k : Nat, k ≤ 8 → Builtin.Int.intBits (((2 ^ k : Nat) : Int) - 1) = k := by
  intro k hk
  have : k = 0 ∨ k = 1 ∨ k = 2 ∨ k = 3 ∨ k = 4 ∨ k = 5 ∨ k = 6 ∨ k = 7 ∨ k = 8 := by omega
  rcases this with rfl | rfl | rfl | rfl | rfl | rfl | rfl | rfl | rfl <;> decide +kernel
section
variable {m : Int} {j H : Nat} {tw : W} {S : Nat → Ms} {k L a1 a2 a3 a4 : Nat} {st : Sto}
theorem t_hend (hm : 7 < m) (hm1 : m < 4611686018427387904) (h : HistC m j H tw S k L a1 a2 a3 a4 (endW m S (2 ^ k)) st) (hF : FolH m j H tw S (2 ^ k)) :
    ∃ st', m_History_end [.ref H] st = .ok (.tup [.int (digS m S (2 ^ k)), .tup ((paN m (dRow (digS m S) 0 (2 ^ k)) k (2 ^ k - 1)).map W.int), rgW (S (2 ^ k)).g, .int (gt (lv m (S (2 ^ k)).w 8) 0), .tup ((S (2 ^ k)).t.map W.int)]) st' ∧ Only [] st st' := by
  have hob := h.ob
  obtain ⟨st1, e1, o1⟩ := t_hlastpath hm hm1 h hF k 0 (by omega) (Nat.le_refl k)
  rw [Nat.zero_mul] at e1
  have hb := bits_pow k h.hk
  refine ⟨st1, ?_, o1⟩
  have hend : endW m S (2 ^ k) = .tup [.int (digS m S (2 ^ k)), rgW (S (2 ^ k)).g, .int (gt (lv m (S (2 ^ k)).w 8) 0), .tup ((S (2 ^ k)).t.map W.int)] := rfl
  rw [hend] at hob
  generalize (paN m (dRow (digS m S) 0 (2 ^ k)) k (2 ^ k - 1)).map W.int = PA at *
  generalize digS m S (2 ^ k) = DD at *
  generalize rgW (S (2 ^ k)).g = RG at *
  generalize gt (lv m (S (2 ^ k)).w 8) 0 = RT at *
  generalize (S (2 ^ k)).t.map W.int = TT at *
  generalize 2 ^ k = C at *
  refine def_rt rfl ?_
  show b_History_end [some (.ref H), none, none, none, none, none] st = _
  unfold b_History_end
  refine seq_nx (s1 := [some (.ref H), some (.int (k : Int)), none, none, none, none]) (st1 := st) (by simp [hob, hb]) ?_
  refine seq_nx (s1 := [some (.ref H), some (.int (k : Int)), some (.int DD), some RG, some (.int RT), some (.tup TT)]) (st1 := st) (by simp [hob]) ?_
  have e1' : m_History_last_path [.ref H, .int (k : Int), .int 0] st = .ok (.tup PA) st1 := e1
  simp [hob, e1', sizeLine_eq]
end
end Gn

namespace Gn
open PySem L2 Mi
/-! ### a history is made -/
abbrev histP (j : Nat) (tw : W) (C L b : Nat) (a1 a2 a3 a4 : Nat) : Fl := [("_digests", .ref j), ("_turn", tw), ("_count", .int (C : Int)), ("_level", .int (L : Int)), ("_block", .int (b : Int)), ("_states", .ref a1), ("_roots", .ref a2), ("_halves", .ref a3), ("_openings", .ref a4)]
section
variable {m : Int} {j H : Nat} {tw : W} {S : Nat → Ms} {k L a1 a2 a3 a4 : Nat}
/-- a block of steps -/
theorem t_hblock (hm : 7 < m) (hm1 : m < 4611686018427387904) (hF : FolH m j H tw S (2 ^ k)) (hk : k ≤ 8) (hT : ∀ i, i ≤ 2 ^ k → (S i).t.length ≤ 16) (f : Nat) (hf : f + 2 ^ L ≤ 2 ^ k) (x1 x2 x3 x4 x7 : Option W)
    (st : Sto) (hob : st[H]? = some (.ins 4 (histP j tw (2 ^ k) L (2 ^ L) a1 a2 a3 a4))) (M0 : Nat) (s0 : Ms) (A0 : List Nat) (hM0 : Mh m j M0 s0 A0 st) (hg0 : s0.g = (S f).g) (hw0 : s0.w = (S f).w) (R : Nat) (hR : st[R]? = some (.lst [])) (hRA : R ∉ A0) (hHA : H ∉ A0) (x9 : Option W) :
    ∃ (y9 : Option W) (M : Nat) (s : Ms) (A : List Nat) (st' : Sto), mLoop (.vals (rngW (f : Int) (2 ^ L))) (mGN 9) l0_History_init (2 ^ L) 0 [some (.ref H), x1, x2, x3, x4, some (.ref M0), some (.tup ((S f).t.map W.int)), x7, some (.ref R), x9] st =
      .nx [some (.ref H), x1, x2, x3, x4, some (.ref M), some (.tup ((S (f + 2 ^ L)).t.map W.int)), x7, some (.ref R), y9] st' ∧ Mh m j M s A st' ∧ s.g = (S (f + 2 ^ L)).g ∧ s.w = (S (f + 2 ^ L)).w ∧ Only (R :: A0) st st' ∧ (∀ a ∈ A, a ∈ A0 ∨ st.length ≤ a) ∧ st'[R]? = some (.lst ((dRow (digS m S) f (2 ^ L)).map W.int)) := by
  have h256 := pow8 hk
  have hHR : H ≠ R := fun z => by rw [z, hR] at hob; cases hob
  have hRlt := (List.getElem?_eq_some_iff.mp hR).1
  have hHlt := (List.getElem?_eq_some_iff.mp hob).1
  obtain ⟨s3, st3, hlp, M, y9, rfl, s, A, hM, hg, hw, ho, hA, hRr⟩ := loop_st (ws := rngW (f : Int) (2 ^ L)) (g := mGN 9) (n := 2 ^ L) (s := [some (.ref H), x1, x2, x3, x4, some (.ref M0), some (.tup ((S f).t.map W.int)), x7, some (.ref R), x9]) (st := st) (body := l0_History_init) (rngW_len _ _)
    (fun i s0 t => ∃ (M : Nat) (y9 : Option W), s0 = [some (.ref H), x1, x2, x3, x4, some (.ref M), some (.tup ((S (f + i)).t.map W.int)), x7, some (.ref R), y9] ∧ ∃ (s : Ms) (A : List Nat), Mh m j M s A t ∧ s.g = (S (f + i)).g ∧ s.w = (S (f + i)).w ∧ Only (R :: A0) st t ∧ (∀ a ∈ A, a ∈ A0 ∨ st.length ≤ a) ∧ t[R]? = some (.lst ((dRow (digS m S) f i).map W.int)))
    ⟨M0, x9, rfl, s0, A0, hM0, hg0, hw0, Only.refl _ _, fun a ha => .inl ha, by simpa [dRow] using hR⟩ (by
      rintro i w s0 t hw ⟨M, y9, rfl, s, A, hM, hg, hws, ho, hA, hRr⟩
      have hi : i < 2 ^ L := by
        have := (List.getElem?_eq_some_iff.mp hw).1
        rwa [rngW_len] at this
      have hwv : w = .int ((f + i : Nat) : Int) := by
        have h2 := (List.getElem?_eq_some_iff.mp hw).2
        simp only [rngW, List.getElem_map, List.getElem_range] at h2
        rw [← h2]; congr 1
      subst hwv
      refine ⟨_, _, rfl, ?_⟩
      have hl := ho.1
      have hHn : H ∉ A := fun z => (hA H z).elim hHA (fun q => by omega)
      have hRn : R ∉ A := fun z => (hA R z).elim hRA (fun q => by omega)
      have hfs := ho.rd hob (by simp only [List.mem_cons]; rintro (z | z); exact hHR z; exact hHA z)
      obtain ⟨M', s', A', t', told', e1, hM', hg', hw', ho', hA', -, htd⟩ := hF (f + i) (by omega) M s A t ((S (f + i)).t) ⟨_, hfs, rfl, rfl⟩ hM hg hws hHn (by have := hT (f + i) (by omega); omega)
      have htd' := htd rfl
      subst htd'
      have e2 := hM'.digest hm hm1
      have hdd : digN m s'.g s'.w = digS m S (f + i + 1) := by rw [hg', hw']; rfl
      rw [hdd] at e2
      obtain ⟨c, hob'⟩ := hM'.obj
      have hRt := ho'.rd hRr hRn
      have hRl' : R < t.length := by omega
      have hRA' : R ∉ A' := fun z => (hA' R z).elim hRn (fun q => by omega)
      have hlen : (dRow (digS m S) f i).length = i := dRow_len _ _ _
      have hrun : l0_History_init [some (.ref H), x1, x2, x3, x4, some (.ref M), some (.tup ((S (f + i)).t.map W.int)), x7, some (.ref R), some (.int ((f + i : Nat) : Int))] t = .nx [some (.ref H), x1, x2, x3, x4, some (.ref M'), some (.tup ((S (f + i + 1)).t.map W.int)), x7, some (.ref R), some (.int ((f + i : Nat) : Int))] (t'.set R (.lst ((dRow (digS m S) f (i + 1)).map W.int))) := by
        rw [dRow_snoc, List.map_append]
        have hsz : (dRow (digS m S) f i).length < 16777216 := by omega
        generalize dRow (digS m S) f i = RW at *
        generalize digS m S (f + i + 1) = DD at *
        generalize (S (f + i + 1)).t.map W.int = T2 at *
        generalize (S (f + i)).t.map W.int = T1 at *
        generalize f + i = q at *
        unfold l0_History_init
        simp [hfs, e1, sizeLine_eq, hob', e2, hRt, hsz]
      simp only [mGN, List.set]
      rw [hrun]
      have oR : Only [R] t' (t'.set R (.lst ((dRow (digS m S) f (i + 1)).map W.int))) := Only.set (by simp)
      have ott : Only (R :: A0) st t' := ho.trans ho' (fun a ha hl => (hA a ha).elim (fun z => List.mem_cons_of_mem _ z) (fun z => by omega))
      refine ⟨M', _, rfl, s', A', hM'.only oR (fun a ha z => by simp only [List.mem_singleton] at z; subst z; exact hRA' ha) (by
        simp only [List.mem_singleton]
        intro z
        obtain ⟨o1, q1, q2⟩ := hM'.dig
        rw [z, hRt] at q1
        cases q1
        obtain ⟨_, q2⟩ := q2
        cases q2), hg', hw', ?_, fun a ha => ?_, ?_⟩
      · exact ott.trans oR (fun a ha hl => by simp only [List.mem_singleton] at ha; subst ha; simp)
      · rcases hA' a ha with z | z
        · exact hA a z
        · exact .inr (by omega)
      · rw [List.getElem?_set_self]
        have := ho'.1; omega)
  exact ⟨y9, M, s, A, st3, hlp, hM, hg, hw, ho, hA, hRr⟩
end
end Gn

namespace Gn
open PySem L2 Mi
theorem rngs_ok : ∀ k, k < 9 → ∀ L, L < 9 → L ≤ k → Builtin.Range.small 0 ((2 ^ k : Nat) : Int) ((2 ^ L : Nat) : Int) = true ∧ Builtin.Range.rangeSize 0 ((2 ^ k : Nat) : Int) ((2 ^ L : Nat) : Int) = ((2 ^ (k - L) : Nat) : Int) := by decide +kernel
theorem h_firstregs (st : Sto) : m_first_registers [] st = .ok (.tup [.int 0, .int 0, .int 0, .int 0, .int 7, .int 0]) st := by
  simp only [m_first_registers, b_first_registers, w_FIRST_OUT]
  simp [sizeLine_eq]
theorem rts_snoc (m : Int) (D : Nat → Int) (L b : Nat) : rtsOf m D L 0 (b + 1) = rtsOf m D L 0 b ++ [rtN m (dRow D (b * 2 ^ L) (2 ^ L)) L] := by
  unfold rtsOf
  rw [List.range_succ, List.map_append]
  simp
end Gn

namespace Gn
open PySem L2 Mi
/-- a history in the making, b blocks of which stand -/
structure HistM (m : Int) (j H : Nat) (tw : W) (S : Nat → Ms) (k L a1 a2 a3 a4 b : Nat) (st : Sto) : Prop where
  ob : st[H]? = some (.ins 4 (histP j tw (2 ^ k) L (2 ^ L) a1 a2 a3 a4))
  s1 : st[a1]? = some (.lst ((List.range b).map fun b => stGW (S (b * 2 ^ L))))
  s2 : st[a2]? = some (.lst ((rtsOf m (digS m S) L 0 b).map W.int))
  d3 : st[a3]? = some (.dT [])
  d4 : st[a4]? = some (.dK [])
  dg : DigAt m st j
  nd : [H, a1, a2, a3, a4].Nodup
section
variable {m : Int} {j H : Nat} {tw : W} {S : Nat → Ms} {k L a1 a2 a3 a4 b : Nat} {st st' : Sto}
theorem HistM.jn (h : HistM m j H tw S k L a1 a2 a3 a4 b st) : j ∉ [H, a1, a2, a3, a4] := by
  obtain ⟨o, h1, bb, rfl⟩ := h.dg
  intro z
  simp only [List.mem_cons, List.not_mem_nil, or_false] at z
  rcases z with rfl | rfl | rfl | rfl | rfl
  · rw [h.ob] at h1; injection h1 with h1; injection h1 with h1; exact absurd h1 (by decide)
  · rw [h.s1] at h1; cases h1
  · rw [h.s2] at h1; cases h1
  · rw [h.d3] at h1; cases h1
  · rw [h.d4] at h1; cases h1
theorem HistM.only {A : List Nat} (h : HistM m j H tw S k L a1 a2 a3 a4 b st) (o : Only A st st') (hA : ∀ i ∈ [j, H, a1, a2, a3, a4], i ∉ A) : HistM m j H tw S k L a1 a2 a3 a4 b st' :=
  ⟨o.rd h.ob (hA _ (by simp)), o.rd h.s1 (hA _ (by simp)), o.rd h.s2 (hA _ (by simp)), o.rd h.d3 (hA _ (by simp)), o.rd h.d4 (hA _ (by simp)), h.dg.only o (hA _ (by simp)), h.nd⟩
theorem HistM.lt (h : HistM m j H tw S k L a1 a2 a3 a4 b st) : ∀ i ∈ [j, H, a1, a2, a3, a4], i < st.length := by
  intro i hi
  simp only [List.mem_cons, List.not_mem_nil, or_false] at hi
  rcases hi with rfl | rfl | rfl | rfl | rfl | rfl
  · obtain ⟨o, h1, _⟩ := h.dg; exact (List.getElem?_eq_some_iff.mp h1).1
  · exact (List.getElem?_eq_some_iff.mp h.ob).1
  · exact (List.getElem?_eq_some_iff.mp h.s1).1
  · exact (List.getElem?_eq_some_iff.mp h.s2).1
  · exact (List.getElem?_eq_some_iff.mp h.d3).1
  · exact (List.getElem?_eq_some_iff.mp h.d4).1
/-- one more block -/
theorem t_houter (hm : 7 < m) (hm1 : m < 4611686018427387904) (hF : FolH m j H tw S (2 ^ k)) (hL : L ≤ k) (hk : k ≤ 8) (hT : ∀ i, i ≤ 2 ^ k → (S i).t.length ≤ 16) (hb : b < 2 ^ (k - L)) (h : HistM m j H tw S k L a1 a2 a3 a4 b st)
    (M : Nat) (s : Ms) (A : List Nat) (hM : Mh m j M s A st) (hg : s.g = (S (b * 2 ^ L)).g) (hw : s.w = (S (b * 2 ^ L)).w) (hA : ∀ i ∈ [j, H, a1, a2, a3, a4], i ∉ A) (x2 x3 x4 x8 x9 : Option W) :
    ∃ (y8 y9 : Option W) (M' : Nat) (s' : Ms) (A' : List Nat) (st' : Sto), l1_History_init [some (.ref H), some (.ref j), x2, x3, x4, some (.ref M), some (.tup ((S (b * 2 ^ L)).t.map W.int)), some (.int ((b * 2 ^ L : Nat) : Int)), x8, x9] st =
      .nx [some (.ref H), some (.ref j), x2, x3, x4, some (.ref M'), some (.tup ((S ((b + 1) * 2 ^ L)).t.map W.int)), some (.int ((b * 2 ^ L : Nat) : Int)), y8, y9] st' ∧
      HistM m j H tw S k L a1 a2 a3 a4 (b + 1) st' ∧ Mh m j M' s' A' st' ∧ s'.g = (S ((b + 1) * 2 ^ L)).g ∧ s'.w = (S ((b + 1) * 2 ^ L)).w ∧ (∀ i ∈ [j, H, a1, a2, a3, a4], i ∉ A') ∧ Only ([H, a1, a2, a3, a4] ++ A) st st' ∧ (∀ a ∈ A', a ∈ A ∨ st.length ≤ a) := by
  have h0 : 0 < m := by omega
  have h256 := pow8 hk
  have hpL := Nat.two_pow_pos L
  have hP8 := pow8 (show L ≤ 8 by omega)
  have ekL : 2 ^ k = 2 ^ (k - L) * 2 ^ L := by rw [← Nat.pow_add]; congr 1; omega
  have hf1 : (b + 1) * 2 ^ L = b * 2 ^ L + 2 ^ L := Nat.succ_mul _ _
  have hf : b * 2 ^ L + 2 ^ L ≤ 2 ^ k := by rw [← hf1, ekL]; exact Nat.mul_le_mul_right _ hb
  have hjn := h.jn
  have nd := h.nd
  have nn : H ≠ a1 ∧ H ≠ a2 ∧ a1 ≠ a2 ∧ a1 ≠ a3 ∧ a1 ≠ a4 ∧ a2 ≠ a3 ∧ a2 ≠ a4 := by
    simp at nd
    omega
  have jj : j ≠ H ∧ j ≠ a1 ∧ j ≠ a2 ∧ j ≠ a3 ∧ j ≠ a4 := by
    simp at hjn
    omega
  have hb8 : b ≤ 256 := by have := pow8 (show k - L ≤ 8 by omega); omega
  -- the state
  have er := hM.regs
  have ew := hM.words
  rw [hg] at er
  rw [hw] at ew
  obtain ⟨c, hobM⟩ := hM.obj
  obtain ⟨st1, hst1⟩ : ∃ st1, st1 = st.set a1 (.lst (((List.range b).map fun b => stGW (S (b * 2 ^ L))) ++ [stGW (S (b * 2 ^ L))])) := ⟨_, rfl⟩
  have o1 : Only [a1] st st1 := by rw [hst1]; exact Only.set (by simp)
  have hl1 : st1.length = st.length := by rw [hst1]; simp
  have aA := hA a1 (by simp)
  have hM1 := hM.only o1 (fun a ha z => by simp only [List.mem_singleton] at z; subst z; exact aA ha) (by simp; omega)
  have hob1 := o1.rd h.ob (by simp; omega)
  have s11 : st1[a1]? = some (.lst ((List.range (b + 1)).map fun b => stGW (S (b * 2 ^ L)))) := by
    rw [hst1, List.getElem?_set_self (h.lt a1 (by simp)), List.range_succ, List.map_append]; rfl
  -- the row
  obtain ⟨st2, hst2⟩ : ∃ st2, st2 = st1 ++ [Ob.lst []] := ⟨_, rfl⟩
  obtain ⟨R, hR⟩ : ∃ R, R = st1.length := ⟨_, rfl⟩
  have o2 : Only [] st1 st2 := by rw [hst2]; exact Only.app _ _ _
  have hM2 := hM1.only o2 (by simp) (by simp)
  have hob2 := o2.rd hob1 (by simp)
  have hR2 : st2[R]? = some (.lst []) := by rw [hst2, hR]; simp
  have hRA : R ∉ A := fun z => by have := hM.lt R z; omega
  have ltR : ∀ i ∈ [j, H, a1, a2, a3, a4], i ≠ R := fun i hi z => by have := h.lt i hi; omega
  -- its steps
  obtain ⟨y9, M', s', A', st3, elp, hM3, hg3, hw3, o3, hA3, hR3⟩ := t_hblock hm hm1 hF hk hT (b * 2 ^ L) hf (some (.ref j)) x2 x3 x4 (some (.int ((b * 2 ^ L : Nat) : Int))) st2 hob2 M s A hM2 hg hw R hR2 hRA (hA H (by simp)) x9
  have nRA : ∀ i ∈ [j, H, a1, a2, a3, a4], i ∉ R :: A := fun i hi z => by
    simp only [List.mem_cons] at z
    rcases z with z | z
    · exact ltR i hi z
    · exact hA i hi z
  have o12 : Only [a1] st st2 := (o1.trans o2 (by simp)).mono (fun a ha _ => ha)
  have hl2 : st.length ≤ st2.length := o12.1
  have hob3 := o3.rd hob2 (nRA H (by simp))
  have s13 := o3.rd (o2.rd s11 (by simp)) (nRA a1 (by simp))
  have s23 := o3.rd (o12.rd h.s2 (by simp; omega)) (nRA a2 (by simp))
  have d33 := o3.rd (o12.rd h.d3 (by simp; omega)) (nRA a3 (by simp))
  have d43 := o3.rd (o12.rd h.d4 (by simp; omega)) (nRA a4 (by simp))
  -- its root
  obtain ⟨st4, e4, o4⟩ := t_rootof h0 (by omega) (dRow_len (digS m S) (b * 2 ^ L) (2 ^ L)) (by omega) (dRow_in h0 S _ _) (.ref R) st3 (.inr (.inr ⟨R, rfl, hR3⟩)) hM3.dig
  have hM4 := hM3.only o4 (by simp) (by simp)
  have hob4 := o4.rd hob3 (by simp)
  have s24 := o4.rd s23 (by simp)
  obtain ⟨st5, hst5⟩ : ∃ st5, st5 = st4.set a2 (.lst ((rtsOf m (digS m S) L 0 b).map W.int ++ [.int (rtN m (dRow (digS m S) (b * 2 ^ L) (2 ^ L)) L)])) := ⟨_, rfl⟩
  have o5 : Only [a2] st4 st5 := by rw [hst5]; exact Only.set (by simp)
  have hA' : ∀ i ∈ [j, H, a1, a2, a3, a4], i ∉ A' := fun i hi z => (hA3 i z).elim (hA i hi) (fun q => by have := h.lt i hi; omega)
  have hM5 := hM4.only o5 (fun a ha z => by simp only [List.mem_singleton] at z; subst z; exact hA' a (by simp) ha) (by simp; omega)
  have hlt2 : a2 < st4.length := (List.getElem?_eq_some_iff.mp s24).1
  rw [← hf1] at hg3 hw3 elp
  refine ⟨some (.ref R), y9, M', s', A', st5, ?_, ⟨o5.rd hob4 (by simp; omega), o5.rd (o4.rd s13 (by simp)) (by simp; omega), ?_, o5.rd (o4.rd d33 (by simp)) (by simp; omega), o5.rd (o4.rd d43 (by simp)) (by simp; omega), hM5.dig, nd⟩, hM5, hg3, hw3, hA', ?_, fun a ha => (hA3 a ha).elim .inl (fun q => .inr (by omega))⟩
  · have hz1 : ((List.range b).map fun b => stGW (S (b * 2 ^ L))).length < 16777216 := by simp; omega
    have hz2 : ((rtsOf m (digS m S) L 0 b).map W.int).length < 16777216 := by simp [rts_len]; omega
    have hs1 := h.s1
    have hob := h.ob
    generalize rtN m (dRow (digS m S) (b * 2 ^ L) (2 ^ L)) L = RT at *
    generalize (rtsOf m (digS m S) L 0 b).map W.int = RW at *
    generalize ((List.range b).map fun b => stGW (S (b * 2 ^ L))) = ST at *
    generalize (S ((b + 1) * 2 ^ L)).t.map W.int = T2 at *
    generalize (S (b * 2 ^ L)).t.map W.int = T1 at *
    have hp1 : (((b * 2 ^ L : Nat) : Int) + ((2 ^ L : Nat) : Int)) = ((b * 2 ^ L + 2 ^ L : Nat) : Int) := by omega
    generalize hQ : b * 2 ^ L = q at *
    generalize 2 ^ L = P at *
    unfold l1_History_init
    refine seq_nx (s1 := [some (.ref H), some (.ref j), x2, x3, x4, some (.ref M), some (.tup T1), some (.int (q : Int)), x8, x9]) (st1 := st1) (by
      rw [hst1]
      simp [hob, hs1, hobM, er, ew, sizeLine_eq, hz1]) ?_
    refine seq_nx (s1 := [some (.ref H), some (.ref j), x2, x3, x4, some (.ref M), some (.tup T1), some (.int (q : Int)), some (.ref R), x9]) (st1 := st2) (by rw [hst2, hR]; simp [sizeLine_eq]) ?_
    refine seq_nx (mFor_vals (rng2_nat (i := q) (n := P) (st1 := st2) (by simp [hob2]) (by omega)) (rngW_len _ _) elp) ?_
    rw [hst5]
    simp [hob3, s23, e4, s24, sizeLine_eq, hz2]
  · rw [hst5, List.getElem?_set_self hlt2, rts_snoc, List.map_append]; rfl
  · refine ((((o12.mono (B := [H, a1, a2, a3, a4] ++ A) (fun a ha _ => by simp only [List.mem_singleton] at ha; simp [ha])).trans o3 (fun a ha hl => ?_)).trans o4 (by simp)).trans o5 (fun a ha _ => by simp only [List.mem_singleton] at ha; simp [ha]))
    simp only [List.mem_cons] at ha
    rcases ha with rfl | ha
    · omega
    · exact List.mem_append_right _ ha
end
end Gn

namespace Gn
open PySem L2 Mi
section
variable {m : Int} {j H : Nat} {tw : W} {S : Nat → Ms} {k L a1 a2 a3 a4 b : Nat} {st st' : Sto}
theorem rngC_ok {a : MA} {n b : Nat} {c : Int} {i h : Int} {s : Slo} {st st1 : Sto} (ha : a s st = .ok [.int i, .int h, .int c] st1) (h0 : c ≠ 0) (h1 : c.natAbs < 1073741824) (h2 : Builtin.Range.small i h c = true) (h3 : Builtin.Range.rangeSize i h c = (n : Int)) :
    mIRngC a s st = .ok (.vals ((List.range n).map fun k => W.int (i + (k : Nat) * c))) st1 := by
  simp only [mIRngC, ha, Out.bind]
  rw [if_pos ⟨h0, h1, h2, by omega⟩, h3]
  simp
/-- the blocks, one after another -/
theorem t_houters (hm : 7 < m) (hm1 : m < 4611686018427387904) (hF : FolH m j H tw S (2 ^ k)) (hL : L ≤ k) (hk : k ≤ 8) (hT : ∀ i, i ≤ 2 ^ k → (S i).t.length ≤ 16) (h : HistM m j H tw S k L a1 a2 a3 a4 0 st)
    (M : Nat) (s : Ms) (A : List Nat) (hM : Mh m j M s A st) (hg : s.g = (S 0).g) (hw : s.w = (S 0).w) (hA : ∀ i ∈ [j, H, a1, a2, a3, a4], i ∉ A) (x2 x3 x4 x7 x8 x9 : Option W) :
    ∃ (y7 y8 y9 : Option W) (M' : Nat) (s' : Ms) (A' : List Nat) (st' : Sto), mLoop (.vals ((List.range (2 ^ (k - L))).map fun k => W.int (0 + (k : Nat) * ((2 ^ L : Nat) : Int)))) (mGN 7) l1_History_init (2 ^ (k - L)) 0 [some (.ref H), some (.ref j), x2, x3, x4, some (.ref M), some (.tup ((S 0).t.map W.int)), x7, x8, x9] st =
      .nx [some (.ref H), some (.ref j), x2, x3, x4, some (.ref M'), some (.tup ((S (2 ^ k)).t.map W.int)), y7, y8, y9] st' ∧
      HistM m j H tw S k L a1 a2 a3 a4 (2 ^ (k - L)) st' ∧ Mh m j M' s' A' st' ∧ s'.g = (S (2 ^ k)).g ∧ s'.w = (S (2 ^ k)).w ∧ (∀ i ∈ [j, H, a1, a2, a3, a4], i ∉ A') ∧ Only ([H, a1, a2, a3, a4] ++ A) st st' ∧ (∀ a ∈ A', a ∈ A ∨ st.length ≤ a) := by
  have ekL : 2 ^ k = 2 ^ (k - L) * 2 ^ L := by rw [← Nat.pow_add]; congr 1; omega
  have hlen : ((List.range (2 ^ (k - L))).map fun k => W.int (0 + (k : Nat) * ((2 ^ L : Nat) : Int))).length = 2 ^ (k - L) := by simp
  obtain ⟨s3, st3, hlp, M', y7, y8, y9, rfl, s', A', hH, hM', hg', hw', hA', ho, hAA⟩ := loop_st (g := mGN 7) (n := 2 ^ (k - L)) (s := [some (.ref H), some (.ref j), x2, x3, x4, some (.ref M), some (.tup ((S 0).t.map W.int)), x7, x8, x9]) (st := st) (body := l1_History_init) hlen
    (fun b s0 t => ∃ (M' : Nat) (y7 y8 y9 : Option W), s0 = [some (.ref H), some (.ref j), x2, x3, x4, some (.ref M'), some (.tup ((S (b * 2 ^ L)).t.map W.int)), y7, y8, y9] ∧ ∃ (s' : Ms) (A' : List Nat), HistM m j H tw S k L a1 a2 a3 a4 b t ∧ Mh m j M' s' A' t ∧ s'.g = (S (b * 2 ^ L)).g ∧ s'.w = (S (b * 2 ^ L)).w ∧ (∀ i ∈ [j, H, a1, a2, a3, a4], i ∉ A') ∧ Only ([H, a1, a2, a3, a4] ++ A) st t ∧ (∀ a ∈ A', a ∈ A ∨ st.length ≤ a))
    ⟨M, x7, x8, x9, by rw [Nat.zero_mul], s, A, h, hM, by rw [Nat.zero_mul]; exact hg, by rw [Nat.zero_mul]; exact hw, hA, Only.refl _ _, fun a ha => .inl ha⟩ (by
      rintro b w s0 t hw ⟨M', y7, y8, y9, rfl, s', A', hH, hM', hg', hw', hA', ho, hAA⟩
      have hb : b < 2 ^ (k - L) := by
        have := (List.getElem?_eq_some_iff.mp hw).1
        rwa [hlen] at this
      have hwv : w = .int ((b * 2 ^ L : Nat) : Int) := by
        have h2 := (List.getElem?_eq_some_iff.mp hw).2
        simp only [List.getElem_map, List.getElem_range] at h2
        rw [← h2]; congr 1; rw [Int.zero_add]; exact (Int.natCast_mul _ _).symm
      subst hwv
      obtain ⟨z8, z9, M2, s2, A2, t2, e2, hH2, hM2, hg2, hw2, hA2, o2, hAA2⟩ := t_houter hm hm1 hF hL hk hT hb hH M' s' A' hM' hg' hw' hA' x2 x3 x4 y8 y9
      refine ⟨_, _, rfl, ?_⟩
      simp only [mGN, List.set]
      rw [e2]
      refine ⟨M2, _, z8, z9, rfl, s2, A2, hH2, hM2, hg2, hw2, hA2, ?_, fun a ha => ?_⟩
      · refine ho.trans o2 fun a ha hl => ?_
        rcases List.mem_append.mp ha with z | z
        · exact List.mem_append_left _ z
        · rcases hAA a z with q | q
          · exact List.mem_append_right _ q
          · omega
      · have hl := ho.1
        rcases hAA2 a ha with z | z
        · exact hAA a z
        · exact .inr (by omega))
  rw [← ekL] at hg' hw' hlp
  exact ⟨y7, y8, y9, M', s', A', st3, hlp, hH, hM', hg', hw', hA', ho, hAA⟩
/-- a history is made whole -/
theorem t_hinit (hm : 7 < m) (hm1 : m < 4611686018427387904) (hk : k ≤ 8) {words : List Int} (hS0 : S 0 = ⟨⟨0, 0, 0, 0, 7, 0⟩, [], words⟩)
    (hok : ∀ i, i ≤ 2 ^ k → Good m (S i).g ∧ (S i).w.length = 256 ∧ ∀ x ∈ (S i).w, Word x) (hT : ∀ i, i ≤ 2 ^ k → (S i).t.length ≤ 16) (hD : DigAt m st j) (hF : FolH m j st.length tw S (2 ^ k)) :
    ∃ a1 a2 a3 a4 st', m_History_init [.ref st.length, .ref j, .tup (words.map W.int), .int (k : Int), tw] (st ++ [.ins 4 []]) = .ok .non st' ∧ HistC m j st.length tw S k (k / 2) a1 a2 a3 a4 (endW m S (2 ^ k)) st' ∧
      st'[a3]? = some (.dT []) ∧ st'[a4]? = some (.dK []) ∧ Only [] st st' ∧ [st.length, a1, a2, a3, a4].Nodup ∧ (∀ i ∈ [a1, a2, a3, a4], st.length < i) := by
  obtain ⟨L, hL⟩ : ∃ L, L = k / 2 := ⟨_, rfl⟩
  have hLk : L ≤ k := by omega
  rw [← hL]
  obtain ⟨H, hH⟩ : ∃ H, H = st.length := ⟨_, rfl⟩
  rw [← hH] at hF
  have h0 : 0 < m := by omega
  have hjl : j < H := by obtain ⟨o, h1, _⟩ := hD; rw [hH]; exact (List.getElem?_eq_some_iff.mp h1).1
  obtain ⟨st1, hst1⟩ : ∃ st1, st1 = st ++ [.ins 4 (histP j tw (2 ^ k) L (2 ^ L) (H + 1) (H + 2) (H + 3) (H + 4)), .lst [], .lst [], .dT [], .dK []] := ⟨_, rfl⟩
  have o1 : Only [] st st1 := by rw [hst1]; exact Only.app _ _ _
  have hl1 : st1.length = H + 5 := by rw [hst1, hH]; simp
  have hM1 : HistM m j H tw S k L (H + 1) (H + 2) (H + 3) (H + 4) 0 st1 := by
    refine ⟨?_, ?_, ?_, ?_, ?_, by rw [hst1]; exact hD.app, by simp⟩
    · rw [hst1, hH]; simp
    · rw [hst1, hH]; simp
    · rw [hst1, hH]; simp [rtsOf]
    · rw [hst1, hH]; simp
    · rw [hst1, hH]; simp
  obtain ⟨g0, l0, w0⟩ := hok 0 (Nat.zero_le _)
  rw [hS0] at g0 l0 w0
  obtain ⟨st2, A, em, M2, o2, hl2, hA2, c2⟩ := Mh.make (S := st1) hm (by omega) l0 hM1.dg g0 w0
  have hH2 := hM1.only o2 (by simp)
  obtain ⟨y7, y8, y9, M', s', A', st3, elp, hH3, hM3, hg3, hw3, hA3, o3, hAA3⟩ := t_houters hm hm1 hF hLk hk hT hH2 st1.length ⟨⟨0, 0, 0, 0, 7, 0⟩, [], words⟩ A M2 (by rw [hS0]) (by rw [hS0]) (fun i hi z => by
    have := hA2 i z
    simp only [List.mem_cons, List.not_mem_nil, or_false] at hi
    rcases hi with rfl | rfl | rfl | rfl | rfl | rfl <;> omega) (some (.tup (words.map W.int))) (some (.int (k : Int))) (some tw) none none none
  have r1 := hM3.digest hm hm1
  have r2 := hM3.regs
  have r3 := hM3.root
  obtain ⟨c, hobM⟩ := hM3.obj
  have hob3 := hH3.ob
  have hHA3 := hA3 H (by simp)
  obtain ⟨st4, hst4⟩ : ∃ st4, st4 = st3.set H (.ins 4 (histF j tw (2 ^ k) L (2 ^ L) (H + 1) (H + 2) (H + 3) (H + 4) (endW m S (2 ^ k)))) := ⟨_, rfl⟩
  have o4 : Only [H] st3 st4 := by rw [hst4]; exact Only.set (by simp)
  have hl3 : H < st3.length := hH3.lt H (by simp)
  have oall : Only [H, H + 1, H + 2, H + 3, H + 4] st1 st4 := by
    refine ((o2.mono (by simp)).trans o3 fun a ha hl => ?_).trans o4 (by simp)
    rcases List.mem_append.mp ha with z | z
    · exact z
    · have := hA2 a z; omega
  have nH : ∀ i, H < i → i ∉ [H] := fun i hi z => by simp only [List.mem_singleton] at z; omega
  have nj : j ∉ [H] := fun z => by simp only [List.mem_singleton] at z; omega
  refine ⟨H + 1, H + 2, H + 3, H + 4, st4, ?_, ⟨?_, o4.rd hH3.s1 (nH _ (by omega)), o4.rd hH3.s2 (nH _ (by omega)), hH3.dg.only o4 nj, hLk, hk, hok⟩, o4.rd hH3.d3 (nH _ (by omega)), o4.rd hH3.d4 (nH _ (by omega)), ⟨by have := o1.1; have := oall.1; omega, fun i hi _ => ?_⟩, by rw [← hH]; simp, fun i hi => by simp only [List.mem_cons, List.not_mem_nil, or_false] at hi; omega⟩
  · have hsh : (1 : Int) * 2 ^ k = ((2 ^ k : Nat) : Int) := by simp
    have hshL : (1 : Int) * 2 ^ L = ((2 ^ L : Nat) : Int) := by simp
    have hdiv : (k : Int) / 2 = (L : Int) := by omega
    obtain ⟨q1, q2⟩ := rngs_ok k (by omega) L (by omega) hLk
    have hp8 := pow8 (show L ≤ 8 by omega)
    have hpL := Nat.two_pow_pos L
    have hk6 : (k : Int) ≤ 1000000 := by omega
    have hL6 : (L : Int) ≤ 1000000 := by omega
    have hp8k := pow8 hk
    have hend : endW m S (2 ^ k) = .tup [.int (digN m s'.g s'.w), rgW s'.g, .int (gt (lv m s'.w 8) 0), .tup ((S (2 ^ k)).t.map W.int)] := by rw [hg3, hw3]; rfl
    rw [hend] at hst4
    rw [hS0] at elp
    have hobH1 := hH2.ob
    generalize digN m s'.g s'.w = DD at *
    generalize rgW s'.g = RG at *
    generalize gt (lv m s'.w 8) 0 = RT at *
    generalize (S (2 ^ k)).t.map W.int = TT at *
    have hl20 : st2.length > H := by have := o2.1; omega
    rw [← hH]
    refine def_nx (s' := [some (.ref H), some (.ref j), some (.tup (words.map W.int)), some (.int (k : Int)), some tw, some (.ref M'), some (.tup TT), y7, y8, y9]) rfl ?_
    show b_History_init [some (.ref H), some (.ref j), some (.tup (words.map W.int)), some (.int (k : Int)), some tw, none, none, none, none, none] (st ++ [.ins 4 []]) = _
    unfold b_History_init
    have gH : ∀ (o : Ob) (T : Sto), (st ++ o :: T)[H]? = some o := fun o T => by rw [hH]; simp
    have sH : ∀ (o o' : Ob) (T : Sto), (st ++ o :: T).set H o' = st ++ o' :: T := fun o o' T => by rw [hH]; simp
    have lH : st.length = H := hH.symm
    refine seq_nx (s1 := [some (.ref H), some (.ref j), some (.tup (words.map W.int)), some (.int (k : Int)), some tw, none, none, none, none, none]) (st1 := st ++ [.ins 4 [("_digests", .ref j)]]) (by simp [gH, sH, putW]) ?_
    refine seq_nx (s1 := [some (.ref H), some (.ref j), some (.tup (words.map W.int)), some (.int (k : Int)), some tw, none, none, none, none, none]) (st1 := st ++ [.ins 4 [("_digests", .ref j), ("_turn", tw)]]) (by simp [gH, sH, putW]) ?_
    refine seq_nx (s1 := [some (.ref H), some (.ref j), some (.tup (words.map W.int)), some (.int (k : Int)), some tw, none, none, none, none, none]) (st1 := st ++ [.ins 4 [("_digests", .ref j), ("_turn", tw), ("_count", .int ((2 ^ k : Nat) : Int))]]) (by simp [gH, sH, putW, hk6, hL6]) ?_
    refine seq_nx (s1 := [some (.ref H), some (.ref j), some (.tup (words.map W.int)), some (.int (k : Int)), some tw, none, none, none, none, none]) (st1 := st ++ [.ins 4 [("_digests", .ref j), ("_turn", tw), ("_count", .int ((2 ^ k : Nat) : Int)), ("_level", .int (L : Int))]]) (by simp [gH, sH, putW, hdiv]) ?_
    refine seq_nx (s1 := [some (.ref H), some (.ref j), some (.tup (words.map W.int)), some (.int (k : Int)), some tw, none, none, none, none, none]) (st1 := st ++ [.ins 4 [("_digests", .ref j), ("_turn", tw), ("_count", .int ((2 ^ k : Nat) : Int)), ("_level", .int (L : Int)), ("_block", .int ((2 ^ L : Nat) : Int))]]) (by simp [gH, sH, putW, hk6, hL6]) ?_
    refine seq_nx (s1 := [some (.ref H), some (.ref j), some (.tup (words.map W.int)), some (.int (k : Int)), some tw, none, none, none, none, none]) (st1 := st ++ [.ins 4 [("_digests", .ref j), ("_turn", tw), ("_count", .int ((2 ^ k : Nat) : Int)), ("_level", .int (L : Int)), ("_block", .int ((2 ^ L : Nat) : Int)), ("_states", .ref (H + 1))], .lst []]) (by simp [gH, sH, putW, lH]) ?_
    refine seq_nx (s1 := [some (.ref H), some (.ref j), some (.tup (words.map W.int)), some (.int (k : Int)), some tw, none, none, none, none, none]) (st1 := st ++ [.ins 4 [("_digests", .ref j), ("_turn", tw), ("_count", .int ((2 ^ k : Nat) : Int)), ("_level", .int (L : Int)), ("_block", .int ((2 ^ L : Nat) : Int)), ("_states", .ref (H + 1)), ("_roots", .ref (H + 2))], .lst [], .lst []]) (by simp [gH, sH, putW, lH]) ?_
    refine seq_nx (s1 := [some (.ref H), some (.ref j), some (.tup (words.map W.int)), some (.int (k : Int)), some tw, none, none, none, none, none]) (st1 := st ++ [.ins 4 [("_digests", .ref j), ("_turn", tw), ("_count", .int ((2 ^ k : Nat) : Int)), ("_level", .int (L : Int)), ("_block", .int ((2 ^ L : Nat) : Int)), ("_states", .ref (H + 1)), ("_roots", .ref (H + 2)), ("_halves", .ref (H + 3))], .lst [], .lst [], .dT []]) (by simp [gH, sH, putW, lH]) ?_
    refine seq_nx (s1 := [some (.ref H), some (.ref j), some (.tup (words.map W.int)), some (.int (k : Int)), some tw, none, none, none, none, none]) (st1 := st1) (by rw [hst1]; simp [gH, sH, putW, lH]) ?_
    refine seq_nx (s1 := [some (.ref H), some (.ref j), some (.tup (words.map W.int)), some (.int (k : Int)), some tw, some (.ref st1.length), none, none, none, none]) (st1 := st2) (by
      obtain ⟨fs, hc⟩ := c2
      have em' : m_Machine_init [.ref st1.length, .ref j, .tup [.int 0, .int 0, .int 0, .int 0, .int 7, .int 0], .tup (words.map W.int)] (st1 ++ [.ins 3 []]) = .ok .non st2 := em
      simp [h_firstregs, em', hc]) ?_
    refine seq_nx (s1 := [some (.ref H), some (.ref j), some (.tup (words.map W.int)), some (.int (k : Int)), some tw, some (.ref st1.length), some (.tup []), none, none, none]) (st1 := st2) (by simp [sizeLine_eq]) ?_
    generalize hP : 2 ^ L = P at *
    generalize hC : 2 ^ k = C at *
    refine seq_nx (mFor_vals (rngC_ok (b := 0) (n := 2 ^ (k - L)) (i := 0) (h := (C : Int)) (c := (P : Int)) (st1 := st2) (by simp [hobH1]) (by omega) (by omega) q1 q2) (by simp) elp) ?_
    rw [hst4]
    simp [hobM, r1, r2, r3, hob3, sizeLine_eq, putW]
  · rw [← hH, hst4, List.getElem?_set_self hl3]
  · have hi1 : i < st1.length := by have := o1.1; omega
    rw [oall.2 i hi1 (by simp; omega), o1.2 i hi (by simp)]
end
end Gn

namespace Gn
open PySem L2 Mi
/-! ### what a row of told words comes to -/
def outS (m o w : Int) : Int := foldN m o (leafN m w)
def outN (m : Int) (ws : List Int) : Int := ws.foldl (outS m) 7
theorem outS_in {m : Int} (hm : 7 < m) : ∀ (ws : List Int) (o : Int), In m o → In m (ws.foldl (outS m) o)
  | [], o, h => h
  | w :: ws, o, h => outS_in hm ws _ (in_fold (by omega) _ _)
theorem t_outof {m : Int} {st : Sto} {j : Nat} (hm : 7 < m) (hm1 : m < 18446744073709551616) (hD : DigAt m st j) (ws : List Int) : m_out_of [.ref j, .tup (ws.map W.int)] st = .ok (.int (outN m ws)) st := by
  obtain ⟨s8, t8, hlp, ⟨x, rfl⟩, ht8⟩ := loop_st (ws := ws.map W.int) (g := mGN 3) (n := ws.length) (s := [some (.ref j), some (.tup (ws.map W.int)), some (.int 7), none]) (st := st) (body := l0_out_of) (by simp)
    (fun k s t => (∃ x : Option W, s = [some (.ref j), some (.tup (ws.map W.int)), some (.int ((ws.take k).foldl (outS m) 7)), x]) ∧ t = st)
    ⟨⟨none, by simp⟩, rfl⟩ (by
      rintro k w s t hw ⟨⟨x, rfl⟩, rfl⟩
      rw [List.getElem?_map, Option.map_eq_some_iff] at hw
      obtain ⟨y, hy, rfl⟩ := hw
      refine ⟨_, _, rfl, ?_⟩
      have e := List.take_succ (l := ws) (i := k)
      rw [hy] at e
      have e2 : (ws.take (k + 1)).foldl (outS m) 7 = outS m ((ws.take k).foldl (outS m) 7) y := by rw [e]; simp
      have hin := outS_in hm (ws.take k) 7 ⟨by omega, hm⟩
      rw [e2]
      generalize (ws.take k).foldl (outS m) 7 = o at hin ⊢
      have f1 := t_leaf (by omega) hD y
      have f2 := t_fold (by omega) hm1 hD o (leafN m y) hin (in_leaf (by omega) y)
      obtain ⟨_, ho, bb, rfl⟩ := hD
      simp only [mGN, List.set, l0_out_of]
      simp [ho, f1, f2, outS])
  rw [List.take_length] at hlp
  have ht8' := ht8.symm
  subst ht8'
  refine def_rt rfl ?_
  show b_out_of [some (.ref j), some (.tup (ws.map W.int)), none, none] st = _
  unfold b_out_of
  refine seq_nx (by simp [w_FIRST_OUT]; exact ⟨rfl, rfl⟩) ?_
  refine seq_nx (mFor_vals (ws := ws.map W.int) rfl (by simp) hlp) ?_
  simp [outN]
end Gn

namespace Gn
open PySem L2 Mi
theorem ifS_true {t : MT} {a b : MS} {s : Slo} {st st1 : Sto} {o : SO} (h : t s st = .ok true st1) (k : a s st1 = o) : mIfS t a b s st = o := by
  simp only [mIfS, h, Out.run, if_true, k]
theorem ifS_false {t : MT} {a b : MS} {s : Slo} {st st1 : Sto} {o : SO} (h : t s st = .ok false st1) (k : b s st1 = o) : mIfS t a b s st = o := by
  simp only [mIfS, h, Out.run, k]
  rfl
theorem cutA (xs : List W) (h : Nat) : cutW xs none (some (h : Int)) = xs.take h := by
  have z := HT.sIx_nat xs.length xs.length h
  have z0 : HT.sIx xs.length 0 none = 0 := rfl
  unfold cutW
  rw [z, z0, List.drop_zero, Nat.sub_zero]
  by_cases hh : h ≤ xs.length
  · rw [Nat.min_eq_left hh]
  · rw [Nat.min_eq_right (by omega), List.take_of_length_le (Nat.le_refl _), List.take_of_length_le (by omega)]
theorem cutB (xs : List W) (h : Nat) : cutW xs (some (h : Int)) none = xs.drop h := by
  have z := HT.sIx_nat xs.length 0 h
  have z0 : HT.sIx xs.length xs.length none = xs.length := rfl
  unfold cutW
  rw [z, z0]
  by_cases hh : h ≤ xs.length
  · rw [Nat.min_eq_left hh]; exact List.take_of_length_le (by simp)
  · rw [Nat.min_eq_right (by omega), List.drop_of_length_le (show xs.length ≤ h by omega)]; simp
end Gn

namespace Gn
open PySem L2 Mi
/-! ### turned histories -/
/-- what a turn makes of a state, and how it is written -/
structure TurnT (m : Int) (p : Nat) (tw : W) (F : Ms → Ms) : Prop where
  /-- the turn told: a word, or told words -/
  kind : (∃ (pl : Nat) (v : Int), pl < 256 ∧ Word v ∧ tw = .tup [.str "word", .int (p : Int), .int (pl : Int), .int v] ∧ ∀ s, F s = ⟨s.g, s.t, s.w.set pl v⟩) ∨
    (∃ ts : List Int, ts.length ≤ 16 ∧ tw = .tup [.str "told", .int (p : Int), .tup (ts.map W.int)] ∧ ∀ s, F s = ⟨⟨s.g.pc, s.g.acc, s.g.x, 1, outN m ts, ts.length⟩, ts, s.w⟩)
/-- the states of a turned run -/
def turnS (m : Int) (p : Nat) (F : Ms → Ms) (s0 : Ms) : Nat → Ms
  | 0 => s0
  | i + 1 => if i + 1 = p then F (nx m (turnS m p F s0 i)) else nx m (turnS m p F s0 i)
section
variable {m : Int} {p : Nat} {tw : W} {F : Ms → Ms}
theorem outN_in (hm : 7 < m) (ts : List Int) : In m (outN m ts) := outS_in hm ts 7 ⟨by omega, hm⟩
theorem TurnT.ok (hm : 7 < m) (h : TurnT m p tw F) {s : Ms} (hs : Ok m s) : Ok m (F s) := by
  rcases h.kind with ⟨pl, v, hp, hv, -, e⟩ | ⟨ts, hl, -, e⟩
  · rw [e]
    refine ⟨hs.go, fun x hx => ?_, by simp [hs.wl], hs.tl⟩
    rcases List.mem_or_eq_of_mem_set hx with z | z
    · exact hs.ww x z
    · rw [z]; exact hv
  · rw [e]
    have g := hs.go
    have o := outN_in hm ts
    refine ⟨⟨g.pc, g.acc, g.x, by simp, o, by simp; omega⟩, hs.ww, hs.wl, by simp⟩
theorem turnS_ok (hm : 7 < m) (h : TurnT m p tw F) {s0 : Ms} (hs : Ok m s0) : ∀ i, Ok m (turnS m p F s0 i)
  | 0 => hs
  | i + 1 => by
    rw [turnS]
    split
    · exact h.ok hm (ok_nx hm (turnS_ok hm h hs i))
    · exact ok_nx hm (turnS_ok hm h hs i)
theorem fol_turned (hm : 7 < m) (hm1 : m < 18446744073709551616) (h : TurnT m p tw F) (j H : Nat) (s0 : Ms) (C : Nat) (hC : C ≤ 1000) : FolH m j H tw (turnS m p F s0) C := by
  intro i hiC M s A st told hH hM hg hw hHA hl
  obtain ⟨fs, hf, ht, hdg⟩ := hH
  have e1 := hM.told
  obtain ⟨st', A', e2, hM', ho, hA'⟩ := hM.step hm hm1
  have e3 := hM'.told
  obtain ⟨c1, ho1⟩ := hM.obj
  obtain ⟨c2, ho2⟩ := hM'.obj
  have hf' := ho.rd hf hHA
  have hn := newT_len s
  have htl : s.t.length ≤ 16 := by
    have h1 := hM.ok.tl
    have h2 := hM.ok.go.cnt.2
    omega
  have hcut : cutW ((nx m s).t.map W.int) (some (s.t.length : Int)) none = (newT s).map W.int := by
    have z := HT.sIx_nat ((nx m s).t.map W.int).length 0 s.t.length
    have z0 : HT.sIx ((nx m s).t.map W.int).length ((nx m s).t.map W.int).length none = ((nx m s).t.map W.int).length := rfl
    unfold cutW
    rw [z, z0, nx_t, List.length_map, List.length_append, Nat.min_eq_left (by omega), List.map_append, List.drop_append_of_le_length (by simp), List.drop_of_length_le (by simp), List.nil_append]
    exact List.take_of_length_le (by simp)
  obtain ⟨q1, q2, q3⟩ := nx_gw (m := m) hg hw
  have hz1 : s.t.length ≤ 16777216 := by omega
  have hz2 : told.length + (newT s).length ≤ 16777216 := by omega
  have hlT : (told ++ newT s).length ≤ told.length + 16 := by simp; omega
  obtain ⟨T2, hT2⟩ : ∃ T2, T2 = told ++ newT s := ⟨_, rfl⟩
  have hT2t : told = (turnS m p F s0 i).t → T2 = (nx m (turnS m p F s0 i)).t := fun e => by rw [hT2, nx_t, ← e, q3]
  have hhead : ∀ o, (mSeq (mIfS (mTOr (mTest (mOp mIsN (mFld 4 "_turn" (mVar 0)) (mC W.non))) (mTest (mOp mNe (mOp mIx (mFld 4 "_turn" (mVar 0)) (mC (W.int 1))) (mOp mAdd (mVar 2) (mC (W.int 1)))))) (mRet (mTup (mCons (mVar 1) (mCons (mVar 3) mNil)))) mSkip)
  (mSeq (mIfS (mTest (mOp mEq (mOp mIx (mFld 4 "_turn" (mVar 0)) (mC (W.int 0))) (mC (W.str "word")))) (mSeq (mAsg (mCB mListOfS (mCons (mMeth 3 "words" 1 m_Machine_words (mVar 1) mNil) mNil)) (mGN 5))
  (mSeq (mAsg (mOp mIx (mFld 4 "_turn" (mVar 0)) (mC (W.int 3))) (mGSub (mVar 5) (mOp mIx (mFld 4 "_turn" (mVar 0)) (mC (W.int 2)))))
  (mRet (mTup (mCons (mMake 3 4 m_Machine_init (mCons (mFld 4 "_digests" (mVar 0)) (mCons (mMeth 3 "registers" 1 m_Machine_registers (mVar 1) mNil) (mCons (mCB mTupleOf (mCons (mVar 5) mNil)) mNil)))) (mCons (mVar 3) mNil)))))) mSkip)
  (mSeq (mAsg (mOp mIx (mFld 4 "_turn" (mVar 0)) (mC (W.int 2))) (mGN 3))
  (mSeq (mAsg (mSl (mMeth 3 "registers" 1 m_Machine_registers (mVar 1) mNil) mNoPart (mPart (mC (W.int 3)))) (mGTup 3 (mGCons (mGN 6) (mGCons (mGN 7) (mGCons (mGN 8) mGNil)))))
  (mSeq (mAsg (mTup (mCons (mVar 6) (mCons (mVar 7) (mCons (mVar 8) (mCons (mTix z_MARKS (mC (W.str "done"))) (mCons (mCall 2 m_out_of (mCons (mFld 4 "_digests" (mVar 0)) (mCons (mVar 3) mNil))) (mCons (mCB mLen (mCons (mVar 3) mNil)) mNil))))))) (mGN 9))
  (mRet (mTup (mCons (mMake 3 4 m_Machine_init (mCons (mFld 4 "_digests" (mVar 0)) (mCons (mVar 9) (mCons (mMeth 3 "words" 1 m_Machine_words (mVar 1) mNil) mNil)))) (mCons (mVar 3) mNil)))))))))
      [some (.ref H), some (.ref M), some (.int (i : Int)), some (.tup (T2.map W.int)), some (.tup (s.t.map W.int)), none, none, none, none, none] st' = o →
      b_History_following [some (.ref H), some (.ref M), some (.int (i : Int)), some (.tup (told.map W.int)), none, none, none, none, none, none] st = o := by
    intro o hh
    unfold b_History_following
    refine seq_nx (s1 := [some (.ref H), some (.ref M), some (.int (i : Int)), some (.tup (told.map W.int)), some (.tup (s.t.map W.int)), none, none, none, none, none]) (st1 := st) (by simp [ho1, e1]) ?_
    refine seq_nx (s1 := [some (.ref H), some (.ref M), some (.int (i : Int)), some (.tup (told.map W.int)), some (.tup (s.t.map W.int)), none, none, none, none, none]) (st1 := st') (by simp [ho1, e2]) ?_
    refine seq_nx (s1 := [some (.ref H), some (.ref M), some (.int (i : Int)), some (.tup (T2.map W.int)), some (.tup (s.t.map W.int)), none, none, none, none, none]) (st1 := st') (by rw [hT2, List.map_append]; simp [ho2, e3, sizeLine_eq, hz1, hz2, hcut]) ?_
    exact hh
  have hI1 : i + 1 ≤ 1000 := by omega
  by_cases hip : i + 1 = p
  · have hS1 : turnS m p F s0 (i + 1) = F (nx m (turnS m p F s0 i)) := by rw [turnS, if_pos hip]
    have hpi : (p : Int) = (i : Int) + 1 := by omega
    have r1 := hM'.regs
    have r2 := hM'.words
    have hjA : DigAt m st' j := hM'.dig
    rcases h.kind with ⟨pl, v, hp, hv, etw, eF⟩ | ⟨ts, hts, etw, eF⟩
    · -- a word
      rw [hpi] at etw
      have hwl := hM'.ok.wl
      obtain ⟨st2, hst2⟩ : ∃ st2, st2 = st' ++ [Ob.lst (((nx m s).w.map W.int).set pl (.int v))] := ⟨_, rfl⟩
      have o2 : Only [] st' st2 := by rw [hst2]; exact Only.app _ _ _
      have M2 := hM'.only o2 (by simp) (by simp)
      obtain ⟨st3, A3, e4, M3, o3, -, f3, c3⟩ := Mh.make (S := st2) (words := (nx m s).w.set pl v) hm hm1 (by simp [hwl]) M2.dig hM'.ok.go (fun x hx => by
        rcases List.mem_or_eq_of_mem_set hx with z | z
        · exact hM'.ok.ww x z
        · rw [z]; exact hv)
      have l2 : st'.length ≤ st2.length := o2.1
      refine ⟨st2.length, _, A3, st3, T2, def_rt rfl (hhead _ ?_), M3, by rw [hS1, eF, q1], by rw [hS1, eF, q2], (ho.trans o2 (by simp)).trans o3 (by simp), fun a ha => .inr (by have := f3 a ha; have := ho.1; omega), by rw [hT2]; exact hlT, fun e => by rw [hS1, eF]; exact hT2t e⟩
      have hobM2 := hM'.obj
      obtain ⟨c2', hob2⟩ := M2.obj
      have r1' := M2.regs
      have hf2 := o2.rd hf' (by simp)
      obtain ⟨c2'', hc2⟩ := c3
      have hw0 : ((nx m s).w.map W.int).length = 256 := by simp [hwl]
      have hset : ((nx m s).w.set pl v).map W.int = ((nx m s).w.map W.int).set pl (.int v) := by rw [List.map_set]
      rw [hset] at e4
      have e4' : m_Machine_init [.ref st2.length, .ref j, rgW (nx m s).g, .tup (((nx m s).w.map W.int).set pl (.int v))] (st2 ++ [.ins 3 []]) = .ok .non st3 := e4
      generalize (nx m s).w.map W.int = WW at *
      generalize rgW (nx m s).g = RG at *
      refine seq_nx (s1 := [some (.ref H), some (.ref M), some (.int (i : Int)), some (.tup (T2.map W.int)), some (.tup (s.t.map W.int)), none, none, none, none, none]) (st1 := st') (by simp [hf', ht, etw]) ?_
      refine seq_rt (st1 := st3) ?_
      have hix : ixN 256 (pl : Int) = some pl := by rw [ixN_nat, if_pos hp]
      have gz : ∀ T : Sto, (st' ++ T)[H]? = some (.ins 4 fs) := fun T => by rw [rd_app (by rw [hf']; rfl)]; exact hf'
      have hgl : (st' ++ [Ob.lst WW])[st'.length]? = some (.lst WW) := by simp
      have hsl : (st' ++ [Ob.lst WW]).set st'.length (.lst (WW.set pl (.int v))) = st2 := by rw [hst2]; simp
      have hg2 : st2[st'.length]? = some (.lst (WW.set pl (.int v))) := by rw [hst2]; simp
      obtain ⟨stw, hstw⟩ : ∃ stw, stw = st' ++ [Ob.lst WW] := ⟨_, rfl⟩
      rw [← hstw] at hgl hsl
      have gw := gz [Ob.lst WW]
      rw [← hstw] at gw
      refine ifS_true (st1 := st') (by simp [hf', ht, etw]) ?_
      refine seq_nx (s1 := [some (.ref H), some (.ref M), some (.int (i : Int)), some (.tup (T2.map W.int)), some (.tup (s.t.map W.int)), some (.ref st'.length), none, none, none, none]) (st1 := stw) (by rw [hstw]; simp [ho2, r2]) ?_
      refine seq_nx (s1 := [some (.ref H), some (.ref M), some (.int (i : Int)), some (.tup (T2.map W.int)), some (.tup (s.t.map W.int)), some (.ref st'.length), none, none, none, none]) (st1 := st2) (by simp [gw, ht, etw, hgl, hw0, hix, hsl]) ?_
      simp [hf2, hdg, hob2, r1', hg2, e4', hc2, sizeLine_eq]
    · -- told words
      rw [hpi] at etw
      have hwl := hM'.ok.wl
      have gk := hM'.ok.go
      have on := outN_in (m := m) hm ts
      have eo := t_outof (m := m) hm hm1 hjA ts
      obtain ⟨st3, A3, e4, M3, o3, -, f3, c3⟩ := Mh.make (S := st') (words := (nx m s).w) (g := ⟨(nx m s).g.pc, (nx m s).g.acc, (nx m s).g.x, 1, outN m ts, ts.length⟩) hm hm1 hwl hM'.dig ⟨gk.pc, gk.acc, gk.x, by simp, on, by simp; omega⟩ hM'.ok.ww
      refine ⟨st'.length, _, A3, st3, ts, def_rt rfl (hhead _ ?_), M3, by rw [hS1, eF, q1], by rw [hS1, eF, q2], ho.trans o3 (by simp), fun a ha => .inr (by have := f3 a ha; have := ho.1; omega), by omega, fun e => by rw [hS1, eF]⟩
      obtain ⟨c2'', hc2⟩ := c3
      have hcr : cutW [W.int (nx m s).g.pc, .int (nx m s).g.acc, .int (nx m s).g.x, .int (nx m s).g.mrk, .int (nx m s).g.out, .int (nx m s).g.cnt] none (some 3) = [W.int (nx m s).g.pc, .int (nx m s).g.acc, .int (nx m s).g.x] := rfl
      have htl2 : (ts.map W.int).length = ts.length := by simp
      have e4' : m_Machine_init [.ref st'.length, .ref j, .tup [.int (nx m s).g.pc, .int (nx m s).g.acc, .int (nx m s).g.x, .int 1, .int (outN m ts), .int (ts.length : Int)], .tup ((nx m s).w.map W.int)] (st' ++ [.ins 3 []]) = .ok .non st3 := e4
      generalize (nx m s).w.map W.int = WW at *
      generalize outN m ts = ON at *
      have r1' : m_Machine_registers [.ref M] st' = .ok (.tup [W.int (nx m s).g.pc, .int (nx m s).g.acc, .int (nx m s).g.x, .int (nx m s).g.mrk, .int (nx m s).g.out, .int (nx m s).g.cnt]) st' := r1
      generalize (nx m s).g.pc = pc at *
      generalize (nx m s).g.acc = acc at *
      generalize (nx m s).g.x = xx at *
      generalize (nx m s).g.mrk = mrk at *
      generalize (nx m s).g.out = out at *
      generalize (nx m s).g.cnt = cnt at *
      have hzs : ts.length ≤ 16777216 := by omega
      refine seq_nx (s1 := [some (.ref H), some (.ref M), some (.int (i : Int)), some (.tup (T2.map W.int)), some (.tup (s.t.map W.int)), none, none, none, none, none]) (st1 := st') (by simp [hf', ht, etw]) ?_
      refine seq_nx (s1 := [some (.ref H), some (.ref M), some (.int (i : Int)), some (.tup (T2.map W.int)), some (.tup (s.t.map W.int)), none, none, none, none, none]) (st1 := st') (by simp [hf', ht, etw]) ?_
      refine seq_nx (s1 := [some (.ref H), some (.ref M), some (.int (i : Int)), some (.tup (ts.map W.int)), some (.tup (s.t.map W.int)), none, none, none, none, none]) (st1 := st') (by simp [hf', ht, etw]) ?_
      refine seq_nx (s1 := [some (.ref H), some (.ref M), some (.int (i : Int)), some (.tup (ts.map W.int)), some (.tup (s.t.map W.int)), none, some (.int pc), some (.int acc), some (.int xx), none]) (st1 := st') (by simp [ho2, r1', hcr]) ?_
      refine seq_nx (s1 := [some (.ref H), some (.ref M), some (.int (i : Int)), some (.tup (ts.map W.int)), some (.tup (s.t.map W.int)), none, some (.int pc), some (.int acc), some (.int xx), some (.tup [.int pc, .int acc, .int xx, .int 1, .int ON, .int (ts.length : Int)])]) (st1 := st') (by simp [hf', hdg, eo, z_MARKS, List.findIdx?_cons, sizeLine_eq, hzs]) ?_
      simp [hf', hdg, ho2, r2, e4', hc2, sizeLine_eq]
  · have hS1 : turnS m p F s0 (i + 1) = nx m (turnS m p F s0 i) := by rw [turnS, if_neg hip]
    refine ⟨M, nx m s, A', st', T2, def_rt rfl (hhead _ ?_), hM', by rw [q1, hS1], by rw [q2, hS1], ho, hA', by rw [hT2]; exact hlT, fun e => by rw [hS1]; exact hT2t e⟩
    have hpi : ¬ (p : Int) = (i : Int) + 1 := by omega
    refine seq_rt ?_
    rcases h.kind with ⟨pl, v, hp, hv, etw, eF⟩ | ⟨ts, hts, etw, eF⟩
    · simp [hf', ht, etw, hpi, sizeLine_eq]
    · simp [hf', ht, etw, hpi, sizeLine_eq]
end
end Gn

namespace Gn
open PySem L2 Mi
/-! ### a history at work: its parts and its two caches -/
structure HistL (m : Int) (j H : Nat) (tw : W) (S : Nat → Ms) (k a1 a2 a3 a4 n3 n4 : Nat) (st : Sto) : Prop where
  hc : HistC m j H tw S k (k / 2) a1 a2 a3 a4 (endW m S (2 ^ k)) st
  d3 : ∃ kvs, st[a3]? = some (.dT kvs) ∧ HaK m S kvs ∧ kvs.length ≤ n3
  d4 : ∃ kvs, st[a4]? = some (.dK kvs) ∧ OpK m S kvs ∧ kvs.length ≤ n4
  nd : [H, a1, a2, a3, a4].Nodup
section
variable {m : Int} {j H : Nat} {tw : W} {S : Nat → Ms} {k a1 a2 a3 a4 n3 n4 : Nat} {st st' : Sto}
theorem HistL.jn (h : HistL m j H tw S k a1 a2 a3 a4 n3 n4 st) : j ∉ [H, a1, a2, a3, a4] := by
  obtain ⟨o, h1, bb, rfl⟩ := h.hc.dg
  obtain ⟨k3, h3, -⟩ := h.d3
  obtain ⟨k4, h4, -⟩ := h.d4
  intro z
  simp only [List.mem_cons, List.not_mem_nil, or_false] at z
  rcases z with rfl | rfl | rfl | rfl | rfl
  · have := h.hc.ob; rw [this] at h1; injection h1 with h1; injection h1 with h1; exact absurd h1 (by decide)
  · rw [h.hc.s1] at h1; cases h1
  · rw [h.hc.s2] at h1; cases h1
  · rw [h3] at h1; cases h1
  · rw [h4] at h1; cases h1
theorem HistL.lt (h : HistL m j H tw S k a1 a2 a3 a4 n3 n4 st) : ∀ i ∈ [j, H, a1, a2, a3, a4], i < st.length := by
  obtain ⟨k3, h3, -⟩ := h.d3
  obtain ⟨k4, h4, -⟩ := h.d4
  intro i hi
  simp only [List.mem_cons, List.not_mem_nil, or_false] at hi
  rcases hi with rfl | rfl | rfl | rfl | rfl | rfl
  · obtain ⟨o, h1, _⟩ := h.hc.dg; exact (List.getElem?_eq_some_iff.mp h1).1
  · exact (List.getElem?_eq_some_iff.mp h.hc.ob).1
  · exact (List.getElem?_eq_some_iff.mp h.hc.s1).1
  · exact (List.getElem?_eq_some_iff.mp h.hc.s2).1
  · exact (List.getElem?_eq_some_iff.mp h3).1
  · exact (List.getElem?_eq_some_iff.mp h4).1
theorem HistL.keep {A : List Nat} (h : HistL m j H tw S k a1 a2 a3 a4 n3 n4 st) (o : Only A st st') (hA : ∀ i ∈ [j, H, a1, a2, a3, a4], i ∉ A) : HistL m j H tw S k a1 a2 a3 a4 n3 n4 st' := by
  obtain ⟨k3, h3, q3⟩ := h.d3
  obtain ⟨k4, h4, q4⟩ := h.d4
  refine ⟨h.hc.only o (fun i hi => hA i ?_), ⟨k3, o.rd h3 (hA _ (by simp)), q3⟩, ⟨k4, o.rd h4 (hA _ (by simp)), q4⟩, h.nd⟩
  simp only [List.mem_cons, List.not_mem_nil, or_false] at hi ⊢
  omega
theorem HistL.mono {p3 p4 : Nat} (h : HistL m j H tw S k a1 a2 a3 a4 n3 n4 st) (h3 : n3 ≤ p3) (h4 : n4 ≤ p4) : HistL m j H tw S k a1 a2 a3 a4 p3 p4 st := by
  obtain ⟨k3, e3, q3, r3⟩ := h.d3
  obtain ⟨k4, e4, q4, r4⟩ := h.d4
  exact ⟨h.hc, ⟨k3, e3, q3, by omega⟩, ⟨k4, e4, q4, by omega⟩, h.nd⟩
variable (hm : 7 < m) (hm1 : m < 4611686018427387904)
include hm hm1
theorem HistL.digest (h : HistL m j H tw S k a1 a2 a3 a4 n3 n4 st) (hF : FolH m j H tw S (2 ^ k)) (n : Nat) (hn : n ≤ 2 ^ k) :
    ∃ st', m_History_digest [.ref H, .int (n : Int)] st = .ok (.int (digS m S n)) st' ∧ Only [] st st' ∧ HistL m j H tw S k a1 a2 a3 a4 n3 n4 st' := by
  obtain ⟨st', e, o⟩ := t_hdigest hm hm1 h.hc hF n hn
  exact ⟨st', e, o, h.keep o (by simp)⟩
theorem HistL.root (h : HistL m j H tw S k a1 a2 a3 a4 n3 n4 st) (hF : FolH m j H tw S (2 ^ k)) (l x : Nat) (hx : (x + 1) * 2 ^ l ≤ 2 ^ k) (hl : l ≤ k) :
    ∃ st', m_History_root [.ref H, .int (l : Int), .int (x : Int)] st = .ok (.int (rtN m (dRow (digS m S) (x * 2 ^ l) (2 ^ l)) l)) st' ∧ Only [] st st' ∧ HistL m j H tw S k a1 a2 a3 a4 n3 n4 st' := by
  obtain ⟨st', e, o⟩ := t_hroot hm hm1 h.hc hF l x hx hl
  exact ⟨st', e, o, h.keep o (by simp)⟩
theorem HistL.fin (h : HistL m j H tw S k a1 a2 a3 a4 n3 n4 st) (hF : FolH m j H tw S (2 ^ k)) :
    ∃ st', m_History_end [.ref H] st = .ok (.tup [.int (digS m S (2 ^ k)), .tup ((paN m (dRow (digS m S) 0 (2 ^ k)) k (2 ^ k - 1)).map W.int), rgW (S (2 ^ k)).g, .int (gt (lv m (S (2 ^ k)).w 8) 0), .tup ((S (2 ^ k)).t.map W.int)]) st' ∧ Only [] st st' ∧ HistL m j H tw S k a1 a2 a3 a4 n3 n4 st' := by
  obtain ⟨st', e, o⟩ := t_hend hm hm1 h.hc hF
  exact ⟨st', e, o, h.keep o (by simp)⟩
theorem HistL.opening (h : HistL m j H tw S k a1 a2 a3 a4 n3 n4 st) (hF : FolH m j H tw S (2 ^ k)) (hz : n4 ≤ 90000) (n : Nat) (hn : n < 2 ^ k) :
    ∃ st', m_History_opening [.ref H, .int (n : Int)] st = .ok (openW m (S n)) st' ∧ Only [a4] st st' ∧ HistL m j H tw S k a1 a2 a3 a4 n3 (n4 + 1) st' := by
  obtain ⟨k4, h4, q4, r4⟩ := h.d4
  obtain ⟨k3, h3, q3, r3⟩ := h.d3
  have nd := h.nd
  have hj := h.jn
  simp at nd hj
  obtain ⟨st', kvs', e, o, e4, q4', r4'⟩ := t_hopening hm hm1 h.hc hF h4 q4 (by omega) (by omega) n hn
  refine ⟨st', e, o, h.hc.only o (fun i hi => ?_), ⟨k3, o.rd h3 (by simp; omega), q3, r3⟩, ⟨kvs', e4, q4', by omega⟩, h.nd⟩
  simp only [List.mem_cons, List.not_mem_nil, or_false] at hi ⊢
  omega
theorem HistL.halves (h : HistL m j H tw S k a1 a2 a3 a4 n3 n4 st) (hF : FolH m j H tw S (2 ^ k)) (hz : n3 ≤ 90000) (l x : Nat) (hl : l + 1 ≤ k) (hx : (x + 1) * 2 ^ (l + 1) ≤ 2 ^ k) :
    ∃ st', m_History_halves [.ref H, .int ((l + 1 : Nat) : Int), .int (x : Int)] st = .ok (halfW m S l x) st' ∧ Only [a3] st st' ∧ HistL m j H tw S k a1 a2 a3 a4 (n3 + 1) n4 st' := by
  obtain ⟨k4, h4, q4, r4⟩ := h.d4
  obtain ⟨k3, h3, q3, r3⟩ := h.d3
  have nd := h.nd
  have hj := h.jn
  simp at nd hj
  obtain ⟨st', kvs', e, o, e3, q3', r3'⟩ := t_hhalves hm hm1 h.hc hF h3 q3 (by omega) (by omega) l x hl hx
  refine ⟨st', e, o, h.hc.only o (fun i hi => ?_), ⟨kvs', e3, q3', by omega⟩, ⟨k4, o.rd h4 (by simp; omega), q4, r4⟩, h.nd⟩
  simp only [List.mem_cons, List.not_mem_nil, or_false] at hi ⊢
  omega
end
end Gn

namespace Gn
open PySem L2 Mi
/-! ### plain values compared: numbers, texts, None, tuples and lists of them -/
def Pv : Nat → W → Prop
  | _, .int _ => True
  | _, .non => True
  | _, .str x => PyData.strOk x = true
  | n + 1, .tup xs => ∀ x ∈ xs, Pv n x
  | n + 1, .lst xs => ∀ x ∈ xs, Pv n x
  | _, _ => False
theorem Pv.py : ∀ (n : Nat) (w : W), Pv n w → ∃ d, toPy w = some d ∧ d.canLay0 = true ∧ d.depth ≤ n := by
  have lists : ∀ (n : Nat), (∀ w, Pv n w → ∃ d, toPy w = some d ∧ d.canLay0 = true ∧ d.depth ≤ n) → ∀ xs : List W, (∀ x ∈ xs, Pv n x) → ∃ ds, toPys xs = some ds ∧ PyData.canLayAll0 ds = true ∧ PyData.depthAll ds ≤ n := by
    intro n ih xs
    induction xs with
    | nil => intro _; exact ⟨[], rfl, by simp, by simp⟩
    | cons x xs h2 =>
      intro h
      obtain ⟨d, e1, e2, e3⟩ := ih x (h x (by simp))
      obtain ⟨ds, f1, f2, f3⟩ := h2 (fun y hy => h y (by simp [hy]))
      exact ⟨d :: ds, by simp [e1, f1], by simp [e2, f2], by simp; omega⟩
  intro n
  induction n with
  | zero =>
    intro w h
    cases w with
    | int i => exact ⟨_, rfl, by simp, by simp⟩
    | non => exact ⟨_, rfl, by simp, by simp⟩
    | str x =>
      have h : PyData.strOk x = true := h
      exact ⟨_, rfl, by simp [h], by simp⟩
    | _ => cases h
  | succ n ih =>
    intro w h
    cases w with
    | int i => exact ⟨_, rfl, by simp, by simp⟩
    | non => exact ⟨_, rfl, by simp, by simp⟩
    | str x =>
      have h : PyData.strOk x = true := h
      exact ⟨_, rfl, by simp [h], by simp⟩
    | tup xs =>
      obtain ⟨ds, e1, e2, e3⟩ := lists n ih xs h
      exact ⟨.tuple ds, by simp [e1], by simp [e2], by simp; omega⟩
    | lst xs =>
      obtain ⟨ds, e1, e2, e3⟩ := lists n ih xs h
      exact ⟨.list ds, by simp [e1], by simp [e2], by simp; omega⟩
    | _ => cases h
theorem toPys_len : ∀ {xs : List W} {ds : List PyData}, toPys xs = some ds → ds.length = xs.length
  | [], ds, h => by cases h; rfl
  | x :: xs, ds, h => by
    simp only [toPys] at h
    cases h1 : toPy x with
    | none => simp [h1] at h
    | some d =>
      cases h2 : toPys xs with
      | none => simp [h1, h2] at h
      | some es =>
        simp [h1, h2] at h
        subst h
        simp [toPys_len h2]
theorem Pv.eqv : ∀ (n : Nat) (a b : W) (da db : PyData), Pv n a → Pv n b → toPy a = some da → toPy b = some db → (PyData.eqv da db = true ↔ a = b) := by
  have lists : ∀ (n : Nat), (∀ a b da db, Pv n a → Pv n b → toPy a = some da → toPy b = some db → (PyData.eqv da db = true ↔ a = b)) →
      ∀ (xs ys : List W) (ds es : List PyData), (∀ x ∈ xs, Pv n x) → (∀ x ∈ ys, Pv n x) → toPys xs = some ds → toPys ys = some es → (PyData.eqvAll ds es = true ↔ xs = ys) := by
    intro n ih xs
    induction xs with
    | nil =>
      intro ys ds es _ hy e1 e2
      cases e1
      cases ys with
      | nil => cases e2; simp
      | cons y ys =>
        have := toPys_len e2
        cases es with
        | nil => simp at this
        | cons e es => simp
    | cons x xs h2 =>
      intro ys ds es hx hy e1 e2
      obtain ⟨d, f1, -, -⟩ := Pv.py n x (hx x (by simp))
      simp only [toPys, f1] at e1
      cases g1 : toPys xs with
      | none => simp [g1] at e1
      | some ds' =>
        simp [g1] at e1
        subst e1
        cases ys with
        | nil => cases e2; simp
        | cons y ys =>
          obtain ⟨e, f2, -, -⟩ := Pv.py n y (hy y (by simp))
          simp only [toPys, f2] at e2
          cases g2 : toPys ys with
          | none => simp [g2] at e2
          | some es' =>
            simp [g2] at e2
            subst e2
            rw [eqvA_cc, Bool.and_eq_true, ih x y d e (hx x (by simp)) (hy y (by simp)) f1 f2, h2 ys ds' es' (fun z hz => hx z (by simp [hz])) (fun z hz => hy z (by simp [hz])) g1 g2]
            simp
  intro n
  induction n with
  | zero =>
    intro a b da db ha hb e1 e2
    cases a <;> cases b <;> first | (cases ha; done) | (cases hb; done) | skip
    all_goals (cases e1; cases e2; simp [PyData.eqv])
  | succ n ih =>
    intro a b da db ha hb e1 e2
    have cs : ∀ (w : W) (d : PyData), Pv (n + 1) w → toPy w = some d → (∃ i, w = .int i ∧ d = .int i) ∨ (w = .non ∧ d = .none) ∨ (∃ x, w = .str x ∧ d = .str x) ∨ (∃ xs ds, w = .tup xs ∧ (∀ x ∈ xs, Pv n x) ∧ toPys xs = some ds ∧ d = .tuple ds) ∨ (∃ xs ds, w = .lst xs ∧ (∀ x ∈ xs, Pv n x) ∧ toPys xs = some ds ∧ d = .list ds) := by
      intro w d hw e
      cases w with
      | int i => cases e; exact .inl ⟨i, rfl, rfl⟩
      | non => cases e; exact .inr (.inl ⟨rfl, rfl⟩)
      | str x => cases e; exact .inr (.inr (.inl ⟨x, rfl, rfl⟩))
      | tup xs =>
        cases h : toPys xs with
        | none => simp [h] at e
        | some ds =>
          simp [h] at e
          exact .inr (.inr (.inr (.inl ⟨xs, ds, rfl, hw, h, e.symm⟩)))
      | lst xs =>
        cases h : toPys xs with
        | none => simp [h] at e
        | some ds =>
          simp [h] at e
          exact .inr (.inr (.inr (.inr ⟨xs, ds, rfl, hw, h, e.symm⟩)))
      | _ => cases hw
    rcases cs a da ha e1 with ⟨i, rfl, rfl⟩ | ⟨rfl, rfl⟩ | ⟨x, rfl, rfl⟩ | ⟨xs, ds, rfl, hx, hds, rfl⟩ | ⟨xs, ds, rfl, hx, hds, rfl⟩ <;>
      rcases cs b db hb e2 with ⟨i', rfl, rfl⟩ | ⟨rfl, rfl⟩ | ⟨x', rfl, rfl⟩ | ⟨ys, es, rfl, hy, hes, rfl⟩ | ⟨ys, es, rfl, hy, hes, rfl⟩
    case inr.inr.inr.inl.inr.inr.inr.inl => rw [eqv_tt, lists n ih xs ys ds es hx hy hds hes]; simp
    case inr.inr.inr.inr.inr.inr.inr.inr =>
      have : PyData.eqv (.list ds) (.list es) = PyData.eqvAll ds es := by simp [PyData.eqv]
      rw [this, lists n ih xs ys ds es hx hy hds hes]; simp
    all_goals simp [PyData.eqv]
theorem Pv.pyS {n : Nat} {w : W} (h : Pv n w) (st : Sto) : toPyS w st = toPy w := by
  cases w with
  | ref i => cases n <;> cases h
  | _ => rfl
/-- the comparison of two plain values tells whether they are the same -/
theorem mEq_pv {n : Nat} (hn : n ≤ 64) {a b : W} (ha : Pv n a) (hb : Pv n b) (st : Sto) : ∃ c : Bool, mEq a b st = .ok (.bl c) st ∧ mNe a b st = .ok (.bl (!c)) st ∧ (c = true ↔ a = b) := by
  obtain ⟨d, e1, e2, e3⟩ := Pv.py n a ha
  obtain ⟨e, f1, f2, f3⟩ := Pv.py n b hb
  have s1 : SeqAt.shaped d = true := by simp [SeqAt.shaped, e2]; omega
  have s2 : SeqAt.shaped e = true := by simp [SeqAt.shaped, f2]; omega
  refine ⟨PyData.eqv d e, ?_, ?_, Pv.eqv n a b d e ha hb e1 f1⟩
  · simp only [mEq, ha.pyS, hb.pyS, e1, f1, s1, s2, and_self, if_true]
  · simp only [mNe, ha.pyS, hb.pyS, e1, f1, s1, s2, and_self, if_true]
theorem Pv.ints (n : Nat) (ns : List Int) : Pv (n + 1) (.tup (ns.map W.int)) := fun x hx => by
  simp only [List.mem_map] at hx
  obtain ⟨i, _, rfl⟩ := hx
  cases n <;> trivial
end Gn

namespace Gn
open PySem L2 Mi
/-! ### what a law reckons of a part of a row -/
theorem dRow_takeW (D : Nat → Int) (a n c : Nat) (h : c ≤ n) : ((dRow D a n).map W.int).take c = (dRow D a c).map W.int := by
  have := dRow_cut D a n 0 c (by omega)
  rw [List.drop_zero, Nat.add_zero] at this
  rw [← List.map_take, this]
theorem dRow_dropW (D : Nat → Int) (a n b : Nat) (h : b ≤ n) : ((dRow D a n).map W.int).drop b = (dRow D (a + b) (n - b)).map W.int := by
  have := dRow_cut D a n b (n - b) (by omega)
  rw [List.take_of_length_le (by simp [dRow_len])] at this
  rw [← List.map_drop, this]
theorem dRow_last (D : Nat → Int) (a n : Nat) (h : 0 < n) : atI ((dRow D a n).map W.int) (-1) = some (.int (D (a + n))) := by
  rw [Mi.atI_last, List.getLast?_eq_getElem?]
  simp [dRow, show n - 1 < n by omega]
  congr 1; omega
section
variable {m : Int} {j : Nat} {S : Nat → Ms} (hm : 7 < m) (hm1 : m < 4611686018427387904)
include hm hm1
theorem dr_root (a l : Nat) (hl : l ≤ 8) (v : W) (st : Sto) (hv : v = .lst ((dRow (digS m S) a (2 ^ l)).map W.int) ∨ v = .tup ((dRow (digS m S) a (2 ^ l)).map W.int) ∨ ∃ r, v = .ref r ∧ st[r]? = some (.lst ((dRow (digS m S) a (2 ^ l)).map W.int))) (hD : DigAt m st j) :
    ∃ st', m_root_of [.ref j, v] st = .ok (.int (rtN m (dRow (digS m S) a (2 ^ l)) l)) st' ∧ Only [] st st' :=
  t_rootof (by omega) (by omega) (dRow_len _ _ _) hl (dRow_in (by omega) S _ _) v st hv hD
theorem dr_path (a l p : Nat) (hl : l ≤ 8) (hp : p < 2 ^ l) (v : W) (st : Sto) (hv : v = .lst ((dRow (digS m S) a (2 ^ l)).map W.int) ∨ ∃ r, v = .ref r ∧ st[r]? = some (.lst ((dRow (digS m S) a (2 ^ l)).map W.int))) (hD : DigAt m st j) :
    ∃ st', m_path_of [.ref j, v, .int (p : Int)] st = .ok (.tup ((paN m (dRow (digS m S) a (2 ^ l)) l p).map W.int)) st' ∧ Only [] st st' :=
  t_pathof (by omega) (by omega) (dRow_len _ _ _) hl (dRow_in (by omega) S _ _) p hp v st hv hD
end
theorem halfW_pv (m : Int) (S : Nat → Ms) (l x : Nat) : Pv 2 (halfW m S l x) := by
  intro w hw
  simp only [List.mem_cons, List.not_mem_nil, or_false] at hw
  rcases hw with rfl | rfl | rfl | rfl
  · trivial
  · trivial
  · trivial
  · exact Pv.ints 0 _
theorem mNe_pv {n : Nat} (hn : n ≤ 64) {a : W} (ha : Pv n a) (st : Sto) : mNe a a st = .ok (.bl false) st := by
  obtain ⟨c, -, e, h⟩ := mEq_pv hn ha ha st
  rw [h.mpr rfl] at e
  exact e
theorem mEqPv {n : Nat} (hn : n ≤ 64) {a : W} (ha : Pv n a) (st : Sto) : mEq a a st = .ok (.bl true) st := by
  obtain ⟨c, e, -, h⟩ := mEq_pv hn ha ha st
  rw [h.mpr rfl] at e
  exact e
end Gn

namespace Gn
open PySem L2 Mi
theorem mNe_same {w : W} {d : PyData} {st : Sto} (h : toPyS w st = some d) (hs : SeqAt.shaped d = true) (he : PyData.eqv d d = true) : mNe w w st = .ok (.bl false) st := by
  simp only [mNe, h, hs, he, and_self, if_true, Bool.not_true]
theorem ne_open (m : Int) (s : Ms) (st : Sto) : mNe (openW m s) (openW m s) st = .ok (.bl false) st := by
  unfold openW opParts
  by_cases hk : s.g.mrk = 0
  · by_cases hh : hasO s
    · simp only [hk, hh, if_true, List.map_cons, List.map_nil, prt]
      exact mNe_same (d := .tuple [.tuple [.int s.g.pc, .int s.g.acc, .int s.g.x, .int s.g.mrk, .int s.g.out, .int s.g.cnt], .int (gt (lv m s.w 8) 0), .tuple [.tuple [.int (gt s.w s.g.pc.toNat), .tuple ((pathN m s.w s.g.pc.toNat).map PyData.int)], .tuple [.int (gt s.w (plN s)), .tuple ((pathN m s.w (plN s)).map PyData.int)]]]) (by simp [hk]) (by simp [lay_ints, dep_ints]) (by simp [eqvA_ints])
    · simp only [hk, hh, if_true, if_false, List.map_cons, List.map_nil, prt]
      exact mNe_same (d := .tuple [.tuple [.int s.g.pc, .int s.g.acc, .int s.g.x, .int s.g.mrk, .int s.g.out, .int s.g.cnt], .int (gt (lv m s.w 8) 0), .tuple [.tuple [.int (gt s.w s.g.pc.toNat), .tuple ((pathN m s.w s.g.pc.toNat).map PyData.int)]]]) (by simp [hk]) (by simp [lay_ints, dep_ints]) (by simp [eqvA_ints])
  · simp only [hk, if_false, List.map_nil]
    exact mNe_same (d := .tuple [.tuple [.int s.g.pc, .int s.g.acc, .int s.g.x, .int s.g.mrk, .int s.g.out, .int s.g.cnt], .int (gt (lv m s.w 8) 0), .tuple []]) (by simp) (by simp) (by simp)
end Gn

namespace Gn
open PySem L2 Mi
/-! ### drawn numbers, a list -/
theorem dr_in (st : Sto) (a b c d e f : Option W) (ds : List Int) (hl : ds.length ≤ 100000) : ∀ (x x6 : Option W) (num : Int),
    ∃ (s' : Slo) (ds' : List Int) , mFor (mIRng1 (mCons (mC (W.int 12)) mNil)) (mGN 7) l0_L_draws [a, b, c, some (.ref st.length), e, some (.int num), x6, x] (st ++ [.lst (ds.map W.int)]) = .nx s' (st ++ [.lst (ds'.map W.int)]) ∧ (∃ y5 y7, s' = [a, b, c, some (.ref st.length), e, y5, x6, y7]) ∧ ds'.length ≤ ds.length + 12 := by
  intro x x6 num
  obtain ⟨s8, t8, hlp, ⟨n8, x8, ds8, rfl, rfl, hd8⟩⟩ := loop_st (ws := rngW 0 12) (g := mGN 7) (n := 12) (s := [a, b, c, some (.ref st.length), e, some (.int num), x6, x]) (st := st ++ [.lst (ds.map W.int)]) (body := l0_L_draws) (by simp)
    (fun k s t => ∃ (n : Int) (x : Option W) (ds' : List Int), s = [a, b, c, some (.ref st.length), e, some (.int n), x6, x] ∧ t = st ++ [.lst (ds'.map W.int)] ∧ ds'.length ≤ ds.length + k)
    ⟨num, x, ds, rfl, rfl, by omega⟩ (by
      rintro k w s t hw ⟨n, y, ds', rfl, rfl, hd⟩
      obtain ⟨hk, rfl⟩ := rng0_get hw
      refine ⟨_, _, rfl, ?_⟩
      have hs : ds'.length < 16777216 := by omega
      have lg : (100000000000000 : Nat).log2 < 9000 := by decide
      simp only [mGN, List.set, l0_L_draws]
      by_cases hz : 0 < n
      · simp [hz, hs, sizeLine_eq, lg]
        refine ⟨ds' ++ [n % 100000000000000], by simp, by simp; omega⟩
      · simp [hz, lg]
        exact ⟨ds', rfl, by omega⟩)
  exact ⟨_, ds8, mFor_vals (rng1_nat (k := 12) rfl (by omega)) (by simp) hlp, ⟨_, _, rfl⟩, hd8⟩
theorem t_draws (ns : List Int) (hn : ns.length ≤ 63) (st : Sto) (most : Nat) : ∃ (ds : List Int) (st' : Sto), m_L_draws [.xst (ns.map W.int), .int 0, .int (most : Int)] st = .ok (.lst (ds.map W.int)) st' ∧ Only [] st st' ∧ ds.length ≤ 1000 := by
  have hc0 : cutW (ns.map W.int) (some 0) none = ns.map W.int := by
    have z := HT.sIx_nat (ns.map W.int).length 0 0
    have z0 : HT.sIx (ns.map W.int).length (ns.map W.int).length none = (ns.map W.int).length := rfl
    unfold cutW
    rw [show (0 : Int) = ((0 : Nat) : Int) from rfl, z, z0]
    simp
    exact List.take_of_length_le (by simp)
  obtain ⟨s8, t8, hlp, ⟨x4, x5, x6, x7, ds8, rfl, rfl, hd8⟩⟩ := loop_st (ws := ns.map W.int) (g := mGN 4) (n := ns.length) (s := [some (.xst (ns.map W.int)), some (.int 0), some (.int (most : Int)), some (.ref st.length), none, none, none, none]) (st := st ++ [.lst []]) (body := l1_L_draws) (by simp)
    (fun k s t => ∃ (x4 x5 x6 x7 : Option W) (ds' : List Int), s = [some (.xst (ns.map W.int)), some (.int 0), some (.int (most : Int)), some (.ref st.length), x4, x5, x6, x7] ∧ t = st ++ [.lst (ds'.map W.int)] ∧ ds'.length ≤ 12 * k)
    ⟨none, none, none, none, [], rfl, rfl, by simp⟩ (by
      rintro k w s t hw ⟨x4, x5, x6, x7, ds', rfl, rfl, hd⟩
      rw [List.getElem?_map, Option.map_eq_some_iff] at hw
      obtain ⟨v, hv, rfl⟩ := hw
      have hk := (List.getElem?_eq_some_iff.mp hv).1
      refine ⟨_, _, rfl, ?_⟩
      have hs : ds'.length < 16777216 := by omega
      have hs1 : ds'.length + 1 < 16777216 := by omega
      have lg9 : (9 : Nat).log2 < 9000 := by decide
      obtain ⟨u, hu⟩ : ∃ u : Int, u = (if v < 0 then -v else v) := ⟨_, rfl⟩
      show Step _ _ (l1_L_draws [some (.xst (ns.map W.int)), some (.int 0), some (.int (most : Int)), some (.ref st.length), some (.int v), x5, x6, x7] (st ++ [.lst (ds'.map W.int)]))
      unfold l1_L_draws
      rw [seq_nx (s1 := [some (.xst (ns.map W.int)), some (.int 0), some (.int (most : Int)), some (.ref st.length), some (.int v), some (.int u), x6, x7]) (st1 := st ++ [.lst (ds'.map W.int)]) (by rw [hu]; simp) rfl]
      by_cases hb : u < 1000000000000000000
      · have m1 : ∀ x : Int, (x % 2147483647).natAbs < 18446744073709551616 := fun x => by omega
        simp [hb, hs, hs1, sizeLine_eq, lg9, m1]
        exact ⟨ds' ++ [(u * 48611 + 43) % 2147483647 * 2147483629 + ((u * 48611 + 43) % 2147483647 * 16807 + u) % 2147483629, ((u * 48611 + 43) % 2147483647 * 69621 + u / 9 + 3) % 2147483399 * 7919 + u % 7919], by simp, by simp; omega⟩
      · obtain ⟨s', ds'', e, ⟨y5, y7, rfl⟩, hl⟩ := dr_in st (some (.xst (ns.map W.int))) (some (.int 0)) (some (.int (most : Int))) none (some (.int v)) none ds' (by omega) x7 x6 u
        simp [-mFor, hb, e]
        exact ⟨ds'', rfl, by omega⟩)
  obtain ⟨ds, hds, hds2⟩ : ∃ ds : List Int, cutW (ds8.map W.int) none (some (most : Int)) = ds.map W.int ∧ ds.length ≤ 1000 := by
    refine ⟨ds8.take most, ?_, by rw [List.length_take]; omega⟩
    have z := HT.sIx_nat (ds8.map W.int).length (ds8.map W.int).length most
    have z0 : HT.sIx (ds8.map W.int).length 0 none = 0 := rfl
    unfold cutW
    rw [z, z0, List.drop_zero, List.map_take, List.length_map, Nat.sub_zero]
    by_cases h : most ≤ ds8.length
    · rw [Nat.min_eq_left h]
    · rw [Nat.min_eq_right (by omega), List.take_of_length_le (by simp), List.take_of_length_le (by simp; omega)]
  refine ⟨ds, st ++ [.lst (ds8.map W.int)], def_rt rfl ?_, Only.app _ _ _, hds2⟩
  show b_L_draws [some (.xst (ns.map W.int)), some (.int 0), some (.int (most : Int)), none, none, none, none, none] st = _
  unfold b_L_draws
  refine seq_nx (by simp [sizeLine_eq]; exact ⟨rfl, rfl⟩) ?_
  refine seq_nx (mFor_vals (ws := ns.map W.int) (by simp [hc0]) (by simp) hlp) ?_
  simp [hds]
end Gn

namespace Gn
open PySem L2 Mi
/-! ### the law's words -/
theorem t_lwords (ds : List Int) (hd : 0 < ds.length) (hd1 : ds.length ≤ 2000) (c : Nat) (hc : c ≤ 256) (st : Sto) : ∃ (words : List Int) (st' : Sto), m_L_words [.lst (ds.map W.int), .int (c : Int)] st = .ok (.tup (words.map W.int)) st' ∧ Only [] st st' ∧ words.length = 256 ∧ ∀ x ∈ words, Word x := by
  obtain ⟨s3, st3, hlp, ws, x3, x4, x5, rfl, rfl, hl, hw⟩ := loop_st (ws := rngW 0 c) (g := mGN 3) (n := c) (s := [some (.lst (ds.map W.int)), some (.int (c : Int)), some (.ref st.length), none, none, none]) (st := st ++ [.lst []]) (body := l0_L_words) (rngW_len 0 c)
    (fun k s t => ∃ (ws : List Int) (x3 x4 x5 : Option W), s = [some (.lst (ds.map W.int)), some (.int (c : Int)), some (.ref st.length), x3, x4, x5] ∧ t = st ++ [.lst (ws.map W.int)] ∧ ws.length = k ∧ ∀ x ∈ ws, Word x)
    ⟨[], none, none, none, rfl, rfl, rfl, by simp⟩ (by
      rintro k w s t hw ⟨ws, x3, x4, x5, rfl, rfl, hl, hws⟩
      obtain ⟨hk, rfl⟩ := rng0_get hw
      refine ⟨_, _, rfl, ?_⟩
      have hmod : k % ds.length < ds.length := Nat.mod_lt _ hd
      obtain ⟨d, hdd⟩ : ∃ d, d = ds[k % ds.length] := ⟨_, rfl⟩
      have hat : atI (ds.map W.int) ((k : Int) % (ds.length : Int)) = some (.int d) := by
        rw [show ((k : Int) % (ds.length : Int)) = ((k % ds.length : Nat) : Int) from (Int.natCast_emod _ _).symm, Mi.atI_nat, List.getElem?_map, List.getElem?_eq_getElem hmod, hdd]; rfl
      obtain ⟨e, he⟩ : ∃ e : Int, e = d / ((k : Int) + 1) + 7 * (k : Int) := ⟨_, rfl⟩
      obtain ⟨u, hu, hub⟩ := pick (fun v => 0 ≤ v ∧ v < 64) [2, 3, 4, 12, 13, 14, 15, 28, 28, 23, 24, 25, 5, 6, 7, 8, 9, 10, 11, 26, 27, 16, 17, 18, 21] (e % 25) (by omega) (by simp; omega) (by simp)
      obtain ⟨v, hv, hvb⟩ := pick (fun v => 0 < v ∧ v ≤ 1024) [256, 40, 1024] (e / 7000 % 3) (by omega) (by simp; omega) (by simp)
      simp only [List.map_cons, List.map_nil] at hu hv
      have lg1 : ((k : Int) + 1).natAbs.log2 < 9000 := log2_lt (by omega)
      have lg2 : (25 : Nat).log2 < 9000 := by decide
      have lg3 : (7000 : Nat).log2 < 9000 := by decide
      have hdp : (0 : Int) < (ds.length : Int) := by omega
      have hkp : (0 : Int) < (k : Int) + 1 := by omega
      have hz : ws.length < 16777216 := by omega
      have hm7 : (k : Int).natAbs < 18446744073709551616 := by omega
      have hu7 : u.natAbs < 18446744073709551616 := by omega
      have hb1 : 0 ≤ e / 25 % v := Int.emod_nonneg _ (by omega)
      have hb2 : e / 25 % v < v := Int.emod_lt_of_pos _ hvb.1
      show Step _ _ (l0_L_words [some (.lst (ds.map W.int)), some (.int (c : Int)), some (.ref st.length), some (.int (k : Int)), x4, x5] (st ++ [.lst (ws.map W.int)]))
      have hrun : l0_L_words [some (.lst (ds.map W.int)), some (.int (c : Int)), some (.ref st.length), some (.int (k : Int)), x4, x5] (st ++ [.lst (ws.map W.int)]) = .nx [some (.lst (ds.map W.int)), some (.int (c : Int)), some (.ref st.length), some (.int (k : Int)), some (.int e), some (.int u)] (st ++ [.lst ((ws ++ [1024 * u + e / 25 % v]).map W.int)]) := by
        unfold l0_L_words
        refine seq_nx (s1 := [some (.lst (ds.map W.int)), some (.int (c : Int)), some (.ref st.length), some (.int (k : Int)), some (.int e), x5]) (st1 := st ++ [.lst (ws.map W.int)]) (by
          rw [he]
          have hdl : 0 < ds.length := hd
          simp [hat, hdl, hkp, lg1]) ?_
        refine seq_nx (s1 := [some (.lst (ds.map W.int)), some (.int (c : Int)), some (.ref st.length), some (.int (k : Int)), some (.int e), some (.int u)]) (st1 := st ++ [.lst (ws.map W.int)]) (by simp [hu, sizeLine_eq]) ?_
        simp [hv, hvb.1, sizeLine_eq, hz, lg2, lg3]
      rw [hrun]
      refine ⟨_, _, _, _, rfl, rfl, by simp [hl], ?_⟩
      intro x hx
      rcases List.mem_append.mp hx with z | z
      · exact hws x z
      · simp only [List.mem_singleton] at z
        subst z
        constructor <;> omega)
  refine ⟨ws ++ List.replicate (256 - c) 0, st ++ [.lst (ws.map W.int)], def_rt rfl ?_, Only.app _ _ _, by simp [hl]; omega, fun x hx => ?_⟩
  · show b_L_words [some (.lst (ds.map W.int)), some (.int (c : Int)), none, none, none, none] st = _
    unfold b_L_words
    refine seq_nx (s1 := [some (.lst (ds.map W.int)), some (.int (c : Int)), some (.ref st.length), none, none, none]) (st1 := st ++ [.lst []]) (by simp [sizeLine_eq]) ?_
    refine seq_nx (mFor_vals (rng1_nat (k := c) (st1 := st ++ [.lst []]) (by simp) (by omega)) (rngW_len 0 c) hlp) ?_
    have h1 : (256 : Int) - (c : Int) = ((256 - c : Nat) : Int) := by omega
    have h2 : (256 - c : Nat) ≤ 256 := by omega
    rw [List.map_append, List.map_replicate]
    generalize 256 - c = q at *
    have h3 : (List.replicate q [W.int 0]).flatten = List.replicate q (W.int 0) := by
      clear h1 h2
      induction q with
      | zero => rfl
      | succ q ih => rw [List.replicate_succ, List.flatten_cons, ih]; rfl
    have h4 : q ≤ 16777216 := by omega
    have h5 : c + q ≤ 16777216 := by omega
    have h6 : (q : Int) < 9223372036854775808 := by omega
    simp [h1, h3, sizeLine_eq, hl, h4, h5, h6]
  · rcases List.mem_append.mp hx with z | z
    · exact hw x z
    · obtain ⟨-, rfl⟩ := List.mem_replicate.mp z
      constructor <;> omega
end Gn

namespace Gn
open PySem L2 Mi
/-! ### the law's own run -/
abbrev if5 : MS := (mIfS (mTAnd (mTest (mOp mEq (mVar 8) (mOp mIx (mVar 3) (mC (W.int 1))))) (mTest (mOp mEq (mOp mIx (mVar 3) (mC (W.int 0))) (mC (W.str "word"))))) (mSeq (mAsg (mCB mListOfS (mCons (mMeth 3 "words" 1 m_Machine_words (mVar 4) mNil) mNil)) (mGN 1))
  (mSeq (mAsg (mOp mIx (mVar 3) (mC (W.int 3))) (mGSub (mVar 1) (mOp mIx (mVar 3) (mC (W.int 2)))))
  (mAsg (mMake 3 4 m_Machine_init (mCons (mVar 0) (mCons (mMeth 3 "registers" 1 m_Machine_registers (mVar 4) mNil) (mCons (mCB mTupleOf (mCons (mVar 1) mNil)) mNil)))) (mGN 4)))) mSkip)
abbrev if6 : MS := (mIfS (mTAnd (mTest (mOp mEq (mVar 8) (mOp mIx (mVar 3) (mC (W.int 1))))) (mTest (mOp mEq (mOp mIx (mVar 3) (mC (W.int 0))) (mC (W.str "told"))))) (mSeq (mAsg (mOp mIx (mVar 3) (mC (W.int 2))) (mGN 5))
  (mSeq (mAsg (mOp mAdd (mSl (mMeth 3 "registers" 1 m_Machine_registers (mVar 4) mNil) mNoPart (mPart (mC (W.int 3)))) (mTup (mCons (mC (W.int 1)) (mCons (mCall 2 m_out_of (mCons (mVar 0) (mCons (mVar 5) mNil))) (mCons (mCB mLen (mCons (mVar 5) mNil)) mNil))))) (mGN 10))
  (mAsg (mMake 3 4 m_Machine_init (mCons (mVar 0) (mCons (mVar 10) (mCons (mMeth 3 "words" 1 m_Machine_words (mVar 4) mNil) mNil)))) (mGN 4)))) mSkip)
section
variable {m : Int} {p j : Nat} {tw : W} {F : Ms → Ms}
/-- the turn of the law's run -/
theorem lr_turn (hm : 7 < m) (hm1 : m < 4611686018427387904) (h : TurnT m p tw F) {M i : Nat} {s : Ms} {A : List Nat} {st : Sto} (hM : Mh m j M s A st) (told : List Int) (ht : told.length ≤ 1000) (hi : i ≤ 1000) (rest : MS) (x1 x2 x6 x7 x9 x10 : Option W) :
    ∃ (x1' x10' : Option W) (M' : Nat) (s' : Ms) (A' : List Nat) (st' : Sto) (told' : List Int), (∀ o, rest [some (.ref j), x1', x2, some tw, some (.ref M'), some (.tup (told'.map W.int)), x6, x7, some (.int ((i + 1 : Nat) : Int)), x9, x10'] st' = o →
      mSeq if5 (mSeq if6 rest) [some (.ref j), x1, x2, some tw, some (.ref M), some (.tup (told.map W.int)), x6, x7, some (.int ((i + 1 : Nat) : Int)), x9, x10] st = o) ∧ Mh m j M' s' A' st' ∧ Only [] st st' ∧ (∀ a ∈ A', a ∈ A ∨ st.length ≤ a) ∧
      (if i + 1 = p then s'.g = (F ⟨s.g, told, s.w⟩).g ∧ s'.w = (F ⟨s.g, told, s.w⟩).w ∧ told' = (F ⟨s.g, told, s.w⟩).t else s'.g = s.g ∧ s'.w = s.w ∧ told' = told) := by
  have r1 := hM.regs
  have r2 := hM.words
  obtain ⟨c0, hob⟩ := hM.obj
  have hdg := hM.dig
  have hwl := hM.ok.wl
  have gk := hM.ok.go
  have lg : ((p : Int)).natAbs < 18446744073709551616 ∨ True := .inr trivial
  by_cases hip : i + 1 = p
  · have hpi : ((i + 1 : Nat) : Int) = (p : Int) := by omega
    rw [hpi]
    rcases h.kind with ⟨pl, v, hp, hv, etw, eF⟩ | ⟨ts, hts, etw, eF⟩
    · obtain ⟨stw, hstw⟩ : ∃ stw, stw = st ++ [Ob.lst (s.w.map W.int)] := ⟨_, rfl⟩
      obtain ⟨st2, hst2⟩ : ∃ st2, st2 = st ++ [Ob.lst ((s.w.map W.int).set pl (.int v))] := ⟨_, rfl⟩
      have o2 : Only [] st st2 := by rw [hst2]; exact Only.app _ _ _
      have M2 := hM.only o2 (by simp) (by simp)
      obtain ⟨st3, A3, e4, M3, o3, -, f3, c3⟩ := Mh.make (S := st2) (words := s.w.set pl v) hm (by omega) (by simp [hwl]) M2.dig gk (fun x hx => by
        rcases List.mem_or_eq_of_mem_set hx with z | z
        · exact hM.ok.ww x z
        · rw [z]; exact hv)
      have l2 := o2.1
      refine ⟨some (.ref st.length), x10, st2.length, _, A3, st3, told, fun o ho => ?_, M3, o2.trans o3 (by simp), fun a ha => .inr (by have := f3 a ha; omega), ?_⟩
      · obtain ⟨c2', hob2⟩ := M2.obj
        have r1' := M2.regs
        obtain ⟨c2'', hc2⟩ := c3
        have hw0 : (s.w.map W.int).length = 256 := by simp [hwl]
        rw [show (s.w.set pl v).map W.int = (s.w.map W.int).set pl (.int v) from List.map_set] at e4
        have e4' : m_Machine_init [.ref st2.length, .ref j, rgW s.g, .tup ((s.w.map W.int).set pl (.int v))] (st2 ++ [.ins 3 []]) = .ok .non st3 := e4
        generalize s.w.map W.int = WW at *
        generalize rgW s.g = RG at *
        have hix : ixN 256 (pl : Int) = some pl := by rw [ixN_nat, if_pos hp]
        have hgl : stw[st.length]? = some (.lst WW) := by rw [hstw]; simp
        have hsl : stw.set st.length (.lst (WW.set pl (.int v))) = st2 := by rw [hstw, hst2]; simp
        have hg2 : st2[st.length]? = some (.lst (WW.set pl (.int v))) := by rw [hst2]; simp
        subst etw
        refine seq_nx (s1 := [some (.ref j), some (.ref st.length), x2, some (.tup [.str "word", .int (p : Int), .int (pl : Int), .int v]), some (.ref st2.length), some (.tup (told.map W.int)), x6, x7, some (.int (p : Int)), x9, x10]) (st1 := st3) (ifS_true (st1 := st) (by simp) ?_) ?_
        · refine seq_nx (s1 := [some (.ref j), some (.ref st.length), x2, some (.tup [.str "word", .int (p : Int), .int (pl : Int), .int v]), some (.ref M), some (.tup (told.map W.int)), x6, x7, some (.int (p : Int)), x9, x10]) (st1 := stw) (by rw [hstw]; simp [hob, r2]) ?_
          refine seq_nx (s1 := [some (.ref j), some (.ref st.length), x2, some (.tup [.str "word", .int (p : Int), .int (pl : Int), .int v]), some (.ref M), some (.tup (told.map W.int)), x6, x7, some (.int (p : Int)), x9, x10]) (st1 := st2) (by simp [hgl, hw0, hix, hsl]) ?_
          simp [hob2, r1', hg2, e4', hc2]
        · exact seq_nx (s1 := [some (.ref j), some (.ref st.length), x2, some (.tup [.str "word", .int (p : Int), .int (pl : Int), .int v]), some (.ref st2.length), some (.tup (told.map W.int)), x6, x7, some (.int (p : Int)), x9, x10]) (st1 := st3) (ifS_false (st1 := st3) (by simp) rfl) ho
      · rw [if_pos hip, eF]; exact ⟨rfl, rfl, rfl⟩
    · have on := outN_in (m := m) hm ts
      have eo := t_outof (m := m) hm (by omega) hdg ts
      obtain ⟨st3, A3, e4, M3, o3, -, f3, c3⟩ := Mh.make (S := st) (words := s.w) (g := ⟨s.g.pc, s.g.acc, s.g.x, 1, outN m ts, ts.length⟩) hm (by omega) hwl hdg ⟨gk.pc, gk.acc, gk.x, by simp, on, by simp; omega⟩ hM.ok.ww
      refine ⟨x1, some (.tup [.int s.g.pc, .int s.g.acc, .int s.g.x, .int 1, .int (outN m ts), .int (ts.length : Int)]), st.length, _, A3, st3, ts, fun o ho => ?_, M3, o3, fun a ha => .inr (f3 a ha), ?_⟩
      · obtain ⟨c2'', hc2⟩ := c3
        have e4' : m_Machine_init [.ref st.length, .ref j, .tup [.int s.g.pc, .int s.g.acc, .int s.g.x, .int 1, .int (outN m ts), .int (ts.length : Int)], .tup (s.w.map W.int)] (st ++ [.ins 3 []]) = .ok .non st3 := e4
        have r1' : m_Machine_registers [.ref M] st = .ok (.tup [W.int s.g.pc, .int s.g.acc, .int s.g.x, .int s.g.mrk, .int s.g.out, .int s.g.cnt]) st := r1
        have hcr : cutW [W.int s.g.pc, .int s.g.acc, .int s.g.x, .int s.g.mrk, .int s.g.out, .int s.g.cnt] none (some 3) = [W.int s.g.pc, .int s.g.acc, .int s.g.x] := rfl
        generalize s.w.map W.int = WW at *
        generalize outN m ts = ON at *
        generalize s.g.pc = pc at *
        generalize s.g.acc = acc at *
        generalize s.g.x = xx at *
        generalize s.g.mrk = mrk at *
        generalize s.g.out = out at *
        generalize s.g.cnt = cnt at *
        subst etw
        refine seq_nx (s1 := [some (.ref j), x1, x2, some (.tup [.str "told", .int (p : Int), .tup (ts.map W.int)]), some (.ref M), some (.tup (told.map W.int)), x6, x7, some (.int (p : Int)), x9, x10]) (st1 := st) (ifS_false (st1 := st) (by simp) rfl) ?_
        refine seq_nx (s1 := [some (.ref j), x1, x2, some (.tup [.str "told", .int (p : Int), .tup (ts.map W.int)]), some (.ref st.length), some (.tup (ts.map W.int)), x6, x7, some (.int (p : Int)), x9, some (.tup [.int pc, .int acc, .int xx, .int 1, .int ON, .int (ts.length : Int)])]) (st1 := st3) (ifS_true (st1 := st) (by simp) ?_) ho
        refine seq_nx (s1 := [some (.ref j), x1, x2, some (.tup [.str "told", .int (p : Int), .tup (ts.map W.int)]), some (.ref M), some (.tup (ts.map W.int)), x6, x7, some (.int (p : Int)), x9, x10]) (st1 := st) (by simp) ?_
        refine seq_nx (s1 := [some (.ref j), x1, x2, some (.tup [.str "told", .int (p : Int), .tup (ts.map W.int)]), some (.ref M), some (.tup (ts.map W.int)), x6, x7, some (.int (p : Int)), x9, some (.tup [.int pc, .int acc, .int xx, .int 1, .int ON, .int (ts.length : Int)])]) (st1 := st) (by simp [hob, r1', hcr, eo, sizeLine_eq]) ?_
        simp [hob, r2, e4', hc2]
      · rw [if_pos hip, eF]; exact ⟨rfl, rfl, rfl⟩
  · have hpi : ¬ (((i + 1 : Nat) : Int) = (p : Int)) := by omega
    refine ⟨x1, x10, M, s, A, st, told, fun o ho => ?_, hM, Only.refl _ _, fun a ha => .inl ha, by rw [if_neg hip]; exact ⟨rfl, rfl, rfl⟩⟩
    generalize ((i + 1 : Nat) : Int) = ii at *
    have q : ∀ r : List W, mTest (mOp mEq (mVar 8) (mOp mIx (mVar 3) (mC (W.int 1)))) [some (.ref j), x1, x2, some tw, some (.ref M), some (.tup (told.map W.int)), x6, x7, some (.int ii), x9, x10] st = .ok false st := fun _ => by
      rcases h.kind with ⟨pl, v, hp, hv, etw, eF⟩ | ⟨ts, hts, etw, eF⟩
      · simp [etw, hpi]
      · simp [etw, hpi]
    have q0 := q []
    refine seq_nx (s1 := [some (.ref j), x1, x2, some tw, some (.ref M), some (.tup (told.map W.int)), x6, x7, some (.int ii), x9, x10]) (st1 := st) (ifS_false (st1 := st) (by simp [-mTest, q0]) rfl) ?_
    exact seq_nx (s1 := [some (.ref j), x1, x2, some tw, some (.ref M), some (.tup (told.map W.int)), x6, x7, some (.int ii), x9, x10]) (st1 := st) (ifS_false (st1 := st) (by simp [-mTest, q0]) rfl) ho
end
end Gn

namespace Gn
open PySem L2 Mi
/-- digests behind 0 to n steps -/
def rowD (D : Nat → Int) (n : Nat) : List Int := (List.range (n + 1)).map D
theorem rowD_len (D : Nat → Int) (n : Nat) : (rowD D n).length = n + 1 := by simp [rowD]
theorem rowD_snoc (D : Nat → Int) (n : Nat) : rowD D (n + 1) = rowD D n ++ [D (n + 1)] := by unfold rowD; rw [List.range_succ, List.map_append]; rfl
theorem rowD_at (D : Nat → Int) (n i : Nat) (h : i ≤ n) : atI ((rowD D n).map W.int) (i : Int) = some (.int (D i)) := by
  rw [Mi.atI_nat]
  simp [rowD, show i < n + 1 by omega]
theorem rowD_last (D : Nat → Int) (n : Nat) : atI ((rowD D n).map W.int) (-1) = some (.int (D n)) := by
  rw [Mi.atI_last, List.getLast?_eq_getElem?]
  simp [rowD]
theorem rowD_cut (D : Nat → Int) (n b c : Nat) (h : b + c ≤ n) : ((rowD D n).drop (1 + b)).take c = dRow D b c := by
  refine List.ext_getElem (by simp [rowD_len, dRow_len]; omega) fun i h1 h2 => ?_
  simp [rowD, dRow]
  congr 1; omega
section
variable {m : Int} {p j R O : Nat} {tw : W} {F : Ms → Ms} {s0 : Ms}
structure P48 (m : Int) (j M R O i : Nat) (S : Nat → Ms) (A : List Nat) (st : Sto) : Prop where
  mh : ∃ s, Mh m j M s A st ∧ s.g = (S i).g ∧ s.w = (S i).w
  row : st[R]? = some (.lst ((rowD (digS m S) i).map W.int))
  ops : st[O]? = some (.lst ((List.range i).map fun i => openW m (S i)))
  nR : R ∉ A
  nO : O ∉ A
  nRO : R ≠ O
theorem t_lstep48 (hm : 7 < m) (hm1 : m < 4611686018427387904) (hF : TurnT m p tw F) {M i : Nat} {A : List Nat} (hi : i < 256) {st : Sto} (h : P48 m j M R O i (turnS m p F s0) A st) (ht : (turnS m p F s0 i).t.length ≤ 16) (x1 x2 x9 x10 : Option W) :
    ∃ (x1' x9' x10' : Option W) (M' : Nat) (A' : List Nat) (st' : Sto), l0_L_run [some (.ref j), x1, x2, some tw, some (.ref M), some (.tup ((turnS m p F s0 i).t.map W.int)), some (.ref R), some (.ref O), some (.int ((i + 1 : Nat) : Int)), x9, x10] st =
      .nx [some (.ref j), x1', x2, some tw, some (.ref M'), some (.tup ((turnS m p F s0 (i + 1)).t.map W.int)), some (.ref R), some (.ref O), some (.int ((i + 1 : Nat) : Int)), x9', x10'] st' ∧ P48 m j M' R O (i + 1) (turnS m p F s0) A' st' ∧ Only (R :: O :: A) st st' ∧ (∀ a ∈ A', a ∈ A ∨ st.length ≤ a) := by
  obtain ⟨S, hS⟩ : ∃ S, S = turnS m p F s0 := ⟨_, rfl⟩
  have hS1 : S (i + 1) = if i + 1 = p then F (nx m (S i)) else nx m (S i) := by rw [hS]; rfl
  rw [← hS] at h ht ⊢
  obtain ⟨s, hmh, hg, hw⟩ := h.mh
  have hR0 := h.row
  have hO0 := h.ops
  have jR : j ≠ R := fun z => by
    obtain ⟨o, h1, bb, rfl⟩ := hmh.dig
    rw [z, hR0] at h1; cases h1
  have jO : j ≠ O := fun z => by
    obtain ⟨o, h1, bb, rfl⟩ := hmh.dig
    rw [z, hO0] at h1; cases h1
  have nRO := h.nRO
  obtain ⟨st1, e1, o1⟩ := t_opened hmh
  rw [openW_gw hg hw] at e1
  have m1 := hmh.only o1 (by simp) (by simp)
  have hO1 := o1.rd hO0 (by simp)
  obtain ⟨st2, hst2⟩ : ∃ st2, st2 = st1.set O (.lst (((List.range i).map fun i => openW m (S i)) ++ [openW m (S i)])) := ⟨_, rfl⟩
  have o2 : Only [O] st1 st2 := by rw [hst2]; exact Only.set (by simp)
  have m2 := m1.only o2 (fun a ha z => h.nO (by simp only [List.mem_singleton] at z; rwa [z] at ha)) (by simpa using jO)
  obtain ⟨st3, A3, e3, m3, o3, hA3⟩ := m2.step hm (by omega)
  obtain ⟨q1, q2, q3⟩ := nx_gw (m := m) hg hw
  have hn := newT_len s
  have htl : s.t.length ≤ 16 := by
    have h1 := hmh.ok.tl
    have h2 := hmh.ok.go.cnt.2
    omega
  obtain ⟨T2, hT2⟩ : ∃ T2, T2 = (S i).t ++ newT s := ⟨_, rfl⟩
  have hnxS : (⟨(nx m s).g, T2, (nx m s).w⟩ : Ms) = nx m (S i) := by
    have e := nx_t m (S i)
    rw [← q3, ← hT2] at e
    rw [q1, q2, ← e]
  obtain ⟨x1', x10', M4, s4, A4, st4, told', hrun, m4, o4, hA4, hcase⟩ := lr_turn hm hm1 hF (i := i) m3 T2 (by rw [hT2]; simp; omega) (by omega) (mDrop (mLM mApp (mVar 6) (mCons (mMeth 3 "digest" 1 m_Machine_digest (mVar 4) mNil) mNil))) x1 x2 (some (.ref R)) (some (.ref O)) (some (.int (s.t.length : Int))) x10
  rw [hnxS] at hcase
  have hnxg : (nx m s).g = (nx m (S i)).g ∧ (nx m s).w = (nx m (S i)).w ∧ T2 = (nx m (S i)).t := by rw [← hnxS]; exact ⟨rfl, rfl, rfl⟩
  obtain ⟨hg4, hw4, ht4⟩ : s4.g = (S (i + 1)).g ∧ s4.w = (S (i + 1)).w ∧ told' = (S (i + 1)).t := by
    rw [hS1]
    split at hcase
    · rename_i hp; rw [if_pos hp]; exact hcase
    · rename_i hp; rw [if_neg hp, ← hnxg.1, ← hnxg.2.1, ← hnxg.2.2]; exact hcase
  have e5 := m4.digest hm hm1
  have hdd : digN m s4.g s4.w = digS m S (i + 1) := by rw [hg4, hw4]; rfl
  rw [hdd] at e5
  have l1 := o1.1
  have l2 := o2.1
  have l3 := o3.1
  have l4 := o4.1
  have hRl := (List.getElem?_eq_some_iff.mp hR0).1
  have hOl := (List.getElem?_eq_some_iff.mp hO0).1
  have hR3 := o3.rd (o2.rd (o1.rd hR0 (by simp)) (by simpa using nRO)) h.nR
  have hO3 : st3[O]? = some (.lst ((List.range (i + 1)).map fun i => openW m (S i))) := o3.rd (by rw [hst2, List.getElem?_set_self (by omega), List.range_succ, List.map_append]; rfl) h.nO
  have hR4 := o4.rd hR3 (by simp)
  have hO4 := o4.rd hO3 (by simp)
  obtain ⟨st5, hst5⟩ : ∃ st5, st5 = st4.set R (.lst ((rowD (digS m S) (i + 1)).map W.int)) := ⟨_, rfl⟩
  have o5 : Only [R] st4 st5 := by rw [hst5]; exact Only.set (by simp)
  have hAA : ∀ a ∈ A4, a ∈ A ∨ st.length ≤ a := fun a ha => (hA4 a ha).elim (fun z => (hA3 a z).imp_right (fun q => by omega)) (fun q => .inr (by omega))
  have nR' : R ∉ A4 := fun z => (hAA R z).elim h.nR (fun q => by omega)
  have nO' : O ∉ A4 := fun z => (hAA O z).elim h.nO (fun q => by omega)
  have m5 := m4.only o5 (fun a ha z => nR' (by simp only [List.mem_singleton] at z; rwa [z] at ha)) (by simpa using jR)
  refine ⟨x1', some (.int (s.t.length : Int)), x10', M4, A4, st5, ?_, ⟨⟨s4, m5, hg4, hw4⟩, by rw [hst5, List.getElem?_set_self (by omega)], o5.rd hO4 (by simpa using fun z => nRO z.symm), nR', nO', nRO⟩, ?_, hAA⟩
  · obtain ⟨c2, hob2⟩ := m2.obj
    obtain ⟨c3, hob3⟩ := m3.obj
    obtain ⟨c4, hob4⟩ := m4.obj
    have e2t := m2.told
    have e3t := m3.told
    have hcut : cutW ((nx m s).t.map W.int) (some (s.t.length : Int)) none = (newT s).map W.int := by
      rw [cutB, nx_t, ← List.map_drop, List.drop_append_of_le_length (Nat.le_refl _), List.drop_length, List.nil_append]
    have hlO : ((List.range i).map fun i => openW m (S i)).length < 16777216 := by simp; omega
    have hlR : ((rowD (digS m S) i).map W.int).length < 16777216 := by simp [rowD_len]; omega
    have hz2 : (S i).t.length + (newT s).length ≤ 16777216 := by omega
    rw [rowD_snoc, List.map_append] at hst5
    rw [← ht4]
    generalize (rowD (digS m S) i).map W.int = RW at *
    generalize ((List.range i).map fun i => openW m (S i)) = OW at *
    generalize digS m S (i + 1) = dg at *
    generalize openW m (S i) = ow at *
    have hii : (i + 1 : Nat) = (i + 1 : Nat) := rfl
    generalize ((i + 1 : Nat) : Int) = ii at *
    unfold l0_L_run
    refine seq_nx (s1 := [some (.ref j), x1, x2, some tw, some (.ref M), some (.tup ((S i).t.map W.int)), some (.ref R), some (.ref O), some (.int ii), x9, x10]) (st1 := st2) (by rw [hst2]; simp [hO0, e1, hO1, sizeLine_eq, hlO]) ?_
    refine seq_nx (s1 := [some (.ref j), x1, x2, some tw, some (.ref M), some (.tup ((S i).t.map W.int)), some (.ref R), some (.ref O), some (.int ii), some (.int (s.t.length : Int)), x10]) (st1 := st2) (by simp [hob2, e2t]) ?_
    refine seq_nx (s1 := [some (.ref j), x1, x2, some tw, some (.ref M), some (.tup ((S i).t.map W.int)), some (.ref R), some (.ref O), some (.int ii), some (.int (s.t.length : Int)), x10]) (st1 := st3) (by simp [hob2, e3]) ?_
    refine seq_nx (s1 := [some (.ref j), x1, x2, some tw, some (.ref M), some (.tup (T2.map W.int)), some (.ref R), some (.ref O), some (.int ii), some (.int (s.t.length : Int)), x10]) (st1 := st3) (by rw [hT2, List.map_append]; simp [hob3, e3t, hcut, sizeLine_eq, hz2]) ?_
    refine hrun _ ?_
    rw [hst5]
    simp [hR4, hob4, e5, sizeLine_eq, hlR]
  · refine ((((o1.mono (B := R :: O :: A) (by simp)).trans o2 (by simp)).trans o3 (fun a ha _ => by simp [ha])).trans o4 (by simp)).trans o5 (by simp)
/-- the law's run whole -/
theorem t_lrun (hm : 7 < m) (hm1 : m < 4611686018427387904) (hF : TurnT m p tw F) {words : List Int} (hs0 : s0 = ⟨⟨0, 0, 0, 0, 7, 0⟩, [], words⟩) (hok0 : Ok m s0) {C : Nat} (hC : C ≤ 256) {st : Sto} (hD : DigAt m st j) :
    ∃ (R O M : Nat) (A : List Nat) (st' : Sto), m_L_run [.ref j, .tup (words.map W.int), .int (C : Int), tw] st = .ok (.tup [.ref R, .ref O, .ref M, .tup ((turnS m p F s0 C).t.map W.int)]) st' ∧ P48 m j M R O C (turnS m p F s0) A st' ∧ Only [] st st' ∧ (∀ a ∈ R :: O :: A, st.length ≤ a) := by
  have okS := turnS_ok hm hF hok0
  have g0 : Good m ⟨0, 0, 0, 0, 7, 0⟩ := by have := hok0.go; rw [hs0] at this; exact this
  have w0 : words.length = 256 ∧ ∀ x ∈ words, Word x := by have h1 := hok0.wl; have h2 := hok0.ww; rw [hs0] at h1 h2; exact ⟨h1, h2⟩
  obtain ⟨st1, A1, e1, m1, o1, l1, hA1, c1⟩ := Mh.make (S := st) hm (by omega) w0.1 hD g0 w0.2
  have r1 := m1.digest hm hm1
  obtain ⟨st2, hst2⟩ : ∃ st2, st2 = st1 ++ [Ob.lst ((rowD (digS m (turnS m p F s0)) 0).map W.int), Ob.lst []] := ⟨_, rfl⟩
  have o2 : Only [] st1 st2 := by rw [hst2]; exact Only.app _ _ _
  have m2 := m1.only o2 (by simp) (by simp)
  have hlt := m1.lt
  have hS0 : turnS m p F s0 0 = s0 := rfl
  obtain ⟨s3, st3, hlp, x1, x8, x9, x10, M, rfl, A, hp, ho, hA⟩ := loop_st (ws := rngW 1 C) (g := mGN 8) (n := C) (s := [some (.ref j), some (.tup (words.map W.int)), some (.int (C : Int)), some tw, some (.ref st.length), some (.tup []), some (.ref st1.length), some (.ref (st1.length + 1)), none, none, none]) (st := st2) (body := l0_L_run) (rngW_len _ _)
    (fun i s t => ∃ (x1 x8 x9 x10 : Option W) (M : Nat), s = [some (.ref j), x1, some (.int (C : Int)), some tw, some (.ref M), some (.tup ((turnS m p F s0 i).t.map W.int)), some (.ref st1.length), some (.ref (st1.length + 1)), x8, x9, x10] ∧ ∃ A, P48 m j M st1.length (st1.length + 1) i (turnS m p F s0) A t ∧ Only (st1.length :: (st1.length + 1) :: A1) st2 t ∧ (∀ a ∈ A, a ∈ A1 ∨ st2.length ≤ a))
    ⟨some (.tup (words.map W.int)), none, none, none, st.length, by rw [hS0, hs0]; rfl, A1, ⟨⟨_, m2, by rw [hS0, hs0], by rw [hS0, hs0]⟩, by rw [hst2]; simp, by rw [hst2]; simp, fun z => by have := hlt _ z; omega, fun z => by have := hlt _ z; omega, by omega⟩, Only.refl _ _, fun a ha => .inl ha⟩ (by
      rintro i w s t hw ⟨x1, x8, x9, x10, M, rfl, A, hp, ho, hA⟩
      have hi : i < C := by
        have := (List.getElem?_eq_some_iff.mp hw).1
        rwa [rngW_len] at this
      have hwv : w = .int ((i + 1 : Nat) : Int) := by
        have h2 := (List.getElem?_eq_some_iff.mp hw).2
        simp only [rngW, List.getElem_map, List.getElem_range] at h2
        rw [← h2]; congr 1; omega
      subst hwv
      refine ⟨_, _, rfl, ?_⟩
      have htl : (turnS m p F s0 i).t.length ≤ 16 := by
        have h1 := (okS i).tl
        have h2 := (okS i).go.cnt
        omega
      obtain ⟨y1, y9, y10, M', A', t', e, hp', ho', hA'⟩ := t_lstep48 hm hm1 hF (by omega) hp htl x1 (some (.int (C : Int))) x9 x10
      simp only [mGN, List.set]
      rw [e]
      have hl := ho.1
      refine ⟨y1, _, y9, y10, M', rfl, A', hp', ho.trans ho' (fun a ha hl => ?_), fun a ha => ?_⟩
      · simp only [List.mem_cons] at ha ⊢
        rcases ha with z | z | z
        · exact .inl z
        · exact .inr (.inl z)
        · rcases hA a z with q | q
          · exact .inr (.inr q)
          · omega
      · rcases hA' a ha with z | z
        · exact hA a z
        · exact .inr (by omega))
  have l2 : st2.length = st1.length + 2 := by rw [hst2]; simp
  refine ⟨st1.length, st1.length + 1, M, A, st3, def_rt rfl ?_, hp, ⟨by have := ho.1; omega, fun i hi _ => ?_⟩, fun a ha => ?_⟩
  · show b_L_run [some (.ref j), some (.tup (words.map W.int)), some (.int (C : Int)), some tw, none, none, none, none, none, none, none] st = _
    obtain ⟨fs, hc⟩ := c1
    obtain ⟨c1o, hob1⟩ := m1.obj
    have e1' : m_Machine_init [.ref st.length, .ref j, .tup [.int 0, .int 0, .int 0, .int 0, .int 7, .int 0], .tup (words.map W.int)] (st ++ [.ins 3 []]) = .ok .non st1 := e1
    have hr0 : (rowD (digS m (turnS m p F s0)) 0).map W.int = [.int (digN m ⟨0, 0, 0, 0, 7, 0⟩ words)] := by simp [rowD, digS, turnS, hs0]
    rw [hr0] at hst2
    generalize digN m ⟨0, 0, 0, 0, 7, 0⟩ words = D0 at *
    unfold b_L_run
    refine seq_nx (s1 := [some (.ref j), some (.tup (words.map W.int)), some (.int (C : Int)), some tw, some (.ref st.length), none, none, none, none, none, none]) (st1 := st1) (by simp [h_firstregs, e1', hc]) ?_
    refine seq_nx (s1 := [some (.ref j), some (.tup (words.map W.int)), some (.int (C : Int)), some tw, some (.ref st.length), some (.tup []), none, none, none, none, none]) (st1 := st1) (by simp [sizeLine_eq]) ?_
    refine seq_nx (s1 := [some (.ref j), some (.tup (words.map W.int)), some (.int (C : Int)), some tw, some (.ref st.length), some (.tup []), some (.ref st1.length), none, none, none, none]) (st1 := st1 ++ [Ob.lst [.int D0]]) (by simp [hob1, r1, sizeLine_eq]) ?_
    refine seq_nx (s1 := [some (.ref j), some (.tup (words.map W.int)), some (.int (C : Int)), some tw, some (.ref st.length), some (.tup []), some (.ref st1.length), some (.ref (st1.length + 1)), none, none, none]) (st1 := st2) (by rw [hst2]; simp [sizeLine_eq]) ?_
    refine seq_nx (mFor_vals (rng2_nat (i := 1) (n := C) (st1 := st2) (by simp; omega) (by omega)) (rngW_len _ _) hlp) ?_
    simp [sizeLine_eq]
  · have hi1 : i < st1.length := by have := o1.1; omega
    have h3 := ho.2 i (by omega) (by
      simp only [List.mem_cons]
      rintro (z | z | z)
      · omega
      · omega
      · have := hA1 i z; omega)
    rw [h3, o2.2 i hi1 (by simp), o1.2 i hi (by simp)]
  · simp only [List.mem_cons] at ha
    have := o1.1
    rcases ha with rfl | rfl | z
    · omega
    · omega
    · rcases hA a z with q | q
      · exact hA1 a q
      · omega
end
end Gn

namespace Gn
open PySem L2 Mi
/-! ### the law's checks -/
structure I48 (m : Int) (j H k a1 a2 a3 a4 R O n3 n4 : Nat) (tw : W) (S : Nat → Ms) (st : Sto) : Prop where
  hl : HistL m j H tw S k a1 a2 a3 a4 n3 n4 st
  row : st[R]? = some (.lst ((rowD (digS m S) (2 ^ k)).map W.int))
  ops : st[O]? = some (.lst ((List.range (2 ^ k)).map fun i => openW m (S i)))
section
variable {m : Int} {j H k a1 a2 a3 a4 R O n3 n4 : Nat} {tw : W} {S : Nat → Ms} {st st' : Sto}
theorem I48.ne (h : I48 m j H k a1 a2 a3 a4 R O n3 n4 tw S st) : R ≠ a3 ∧ R ≠ a4 ∧ O ≠ a3 ∧ O ≠ a4 := by
  obtain ⟨k3, h3, -⟩ := h.hl.d3
  obtain ⟨k4, h4, -⟩ := h.hl.d4
  have r := h.row
  have o := h.ops
  refine ⟨fun z => ?_, fun z => ?_, fun z => ?_, fun z => ?_⟩
  · rw [z, h3] at r; cases r
  · rw [z, h4] at r; cases r
  · rw [z, h3] at o; cases o
  · rw [z, h4] at o; cases o
theorem I48.only0 (h : I48 m j H k a1 a2 a3 a4 R O n3 n4 tw S st) (o : Only [] st st') : I48 m j H k a1 a2 a3 a4 R O n3 n4 tw S st' :=
  ⟨h.hl.keep o (by simp), o.rd h.row (by simp), o.rd h.ops (by simp)⟩
variable (hm : 7 < m) (hm1 : m < 4611686018427387904)
include hm hm1
/-- a drawn step -/
theorem t_check1 (h : I48 m j H k a1 a2 a3 a4 R O n3 n4 tw S st) (hF : FolH m j H tw S (2 ^ k)) (hk : k ≤ 8) (hz : n4 ≤ 80000) (d : Int) (x0 x1 x3 x4 x6 x7 x8 x12 x13 x15 x16 x17 x18 x19 x20 x21 x22 x23 : Option W) :
    ∃ (y15 : Option W) (st' : Sto), l1_law [x0, x1, some (.ref j), x3, x4, some (.int ((2 ^ k : Nat) : Int)), x6, x7, x8, some (.ref H), some (.ref R), some (.ref O), x12, x13, some (.int d), x15, x16, x17, x18, x19, x20, x21, x22, x23] st = .nx [x0, x1, some (.ref j), x3, x4, some (.int ((2 ^ k : Nat) : Int)), x6, x7, x8, some (.ref H), some (.ref R), some (.ref O), x12, x13, some (.int d), y15, x16, x17, x18, x19, x20, x21, x22, x23] st' ∧ I48 m j H k a1 a2 a3 a4 R O n3 (n4 + 1) tw S st' ∧ Only [a4] st st' := by
  have hp := Nat.two_pow_pos k
  have h256 := pow8 hk
  obtain ⟨s, hs, hs1⟩ : ∃ s : Nat, d % (((2 ^ k : Nat) : Int) + 1) = (s : Int) ∧ s ≤ 2 ^ k := by
    generalize 2 ^ k = C at *
    have z1 : 0 ≤ d % ((C : Int) + 1) := Int.emod_nonneg _ (by omega)
    have z2 : d % ((C : Int) + 1) < C + 1 := Int.emod_lt_of_pos _ (by omega)
    exact ⟨(d % ((C : Int) + 1)).toNat, by omega, by omega⟩
  obtain ⟨st1, e1, o1, h1⟩ := h.hl.digest hm hm1 hF s hs1
  have i1 := h.only0 o1
  obtain ⟨n1, n2, n3', n4'⟩ := h.ne
  have ha1 := rowD_at (digS m S) (2 ^ k) s hs1
  have hob := h.hl.hc.ob
  have hob1 := h1.hc.ob
  have row1 := i1.row
  have q1 := mNe_ii (digS m S s) (digS m S s) st1
  simp only [decide_true, Bool.not_true] at q1
  by_cases hlt : s < 2 ^ k
  · obtain ⟨st2, e2, o2, h2⟩ := h1.opening hm hm1 hF (by omega) s hlt
    have r2 := o2.rd i1.row (by simpa using n2)
    have p2 := o2.rd i1.ops (by simpa using n4')
    refine ⟨some (.int (s : Int)), st2, ?_, ⟨h2, r2, p2⟩, (o1.mono (by simp)).trans o2 (by simp)⟩
    have ha2 : atI ((List.range (2 ^ k)).map fun i => openW m (S i)) (s : Int) = some (openW m (S s)) := by
      rw [Mi.atI_nat]; simp [hlt]
    have q2 := ne_open m (S s) st2
    generalize (rowD (digS m S) (2 ^ k)).map W.int = RW at *
    generalize ((List.range (2 ^ k)).map fun i => openW m (S i)) = OW at *
    generalize openW m (S s) = ow at *
    generalize digS m S s = dg at *
    generalize 2 ^ k = C at *
    have hC : (0 : Int) < (C : Int) + 1 := by omega
    have hlt' : (s : Int) < (C : Int) := by omega
    unfold l1_law
    refine seq_nx (s1 := [x0, x1, some (.ref j), x3, x4, some (.int (C : Int)), x6, x7, x8, some (.ref H), some (.ref R), some (.ref O), x12, x13, some (.int d), some (.int (s : Int)), x16, x17, x18, x19, x20, x21, x22, x23]) (st1 := st) (by simp [hC, hs]) ?_
    refine seq_nx (s1 := [x0, x1, some (.ref j), x3, x4, some (.int (C : Int)), x6, x7, x8, some (.ref H), some (.ref R), some (.ref O), x12, x13, some (.int d), some (.int (s : Int)), x16, x17, x18, x19, x20, x21, x22, x23]) (st1 := st1) (by simp [-mNe, hob, e1, row1, ha1, q1]) ?_
    simp [-mNe, hlt, hob1, e2, p2, ha2, q2]
  · refine ⟨some (.int (s : Int)), st1, ?_, ⟨h1.mono (Nat.le_refl _) (by omega), i1.row, i1.ops⟩, o1.mono (by simp)⟩
    generalize (rowD (digS m S) (2 ^ k)).map W.int = RW at *
    generalize digS m S s = dg at *
    generalize 2 ^ k = C at *
    have hC : (0 : Int) < (C : Int) + 1 := by omega
    unfold l1_law
    refine seq_nx (s1 := [x0, x1, some (.ref j), x3, x4, some (.int (C : Int)), x6, x7, x8, some (.ref H), some (.ref R), some (.ref O), x12, x13, some (.int d), some (.int (s : Int)), x16, x17, x18, x19, x20, x21, x22, x23]) (st1 := st) (by simp [hC, hs]) ?_
    refine seq_nx (s1 := [x0, x1, some (.ref j), x3, x4, some (.int (C : Int)), x6, x7, x8, some (.ref H), some (.ref R), some (.ref O), x12, x13, some (.int d), some (.int (s : Int)), x16, x17, x18, x19, x20, x21, x22, x23]) (st1 := st1) (by simp [-mNe, hob, e1, row1, ha1, q1]) ?_
    simp [hlt]
/-- a range of a level -/
theorem t_check2 (h : I48 m j H k a1 a2 a3 a4 R O n3 n4 tw S st) (hF : FolH m j H tw S (2 ^ k)) (hk : k ≤ 8) (hz : n3 ≤ 80000) (l : Nat) (hl : l ≤ k) (x : Nat) (hx1 : x < 2 ^ (k - l)) (x0 x1 x3 x4 x6 x7 x8 x12 x13 x14 x15 x19 x20 x21 x22 x23 : Option W) :
    ∃ (y19 y20 y21 : Option W) (st' : Sto), l2_law [x0, x1, some (.ref j), x3, x4, some (.int ((2 ^ k : Nat) : Int)), x6, x7, x8, some (.ref H), some (.ref R), some (.ref O), x12, x13, x14, x15, some (.int (l : Int)), some (.int ((2 ^ l : Nat) : Int)), some (.int (x : Int)), x19, x20, x21, x22, x23] st =
      .nx [x0, x1, some (.ref j), x3, x4, some (.int ((2 ^ k : Nat) : Int)), x6, x7, x8, some (.ref H), some (.ref R), some (.ref O), x12, x13, x14, x15, some (.int (l : Int)), some (.int ((2 ^ l : Nat) : Int)), some (.int (x : Int)), y19, y20, y21, x22, x23] st' ∧ I48 m j H k a1 a2 a3 a4 R O (n3 + 1) n4 tw S st' ∧ Only [a3] st st' := by
  have hpl := Nat.two_pow_pos l
  have h256 := pow8 hk
  have hl256 := pow8 (show l ≤ 8 by omega)
  have hkl256 := pow8 (show k - l ≤ 8 by omega)
  have ekl : 2 ^ k = 2 ^ (k - l) * 2 ^ l := by rw [← Nat.pow_add]; congr 1; omega
  have hq := Nat.two_pow_pos (k - l)
  have hx2 : (x + 1) * 2 ^ l ≤ 2 ^ k := by rw [ekl]; exact Nat.mul_le_mul_right _ hx1
  have hx3 : (x + 1) * 2 ^ l = x * 2 ^ l + 2 ^ l := Nat.succ_mul _ _
  have hcut : cutW ((rowD (digS m S) (2 ^ k)).map W.int) (some (1 + (x : Int) * ((2 ^ l : Nat) : Int))) (some (1 + ((x : Int) + 1) * ((2 ^ l : Nat) : Int))) = (dRow (digS m S) (x * 2 ^ l) (2 ^ l)).map W.int := by
    have c1 : 1 + (x : Int) * ((2 ^ l : Nat) : Int) = ((1 + x * 2 ^ l : Nat) : Int) := by rw [Int.natCast_add, Int.natCast_mul]; rfl
    have c2 : 1 + ((x : Int) + 1) * ((2 ^ l : Nat) : Int) = ((1 + (x + 1) * 2 ^ l : Nat) : Int) := by rw [Int.natCast_add, Int.natCast_mul]; rfl
    rw [c1, c2, cutH, ← List.map_drop, ← List.map_take, show 1 + (x + 1) * 2 ^ l - (1 + x * 2 ^ l) = 2 ^ l by omega, rowD_cut _ _ _ _ (by omega)]
  obtain ⟨st1, e1, o1, h1⟩ := h.hl.root hm hm1 hF l x hx2 hl
  obtain ⟨st2, e2, o2⟩ := dr_root (S := S) hm hm1 (x * 2 ^ l) l (by omega) (.lst ((dRow (digS m S) (x * 2 ^ l) (2 ^ l)).map W.int)) st1 (.inl rfl) h1.hc.dg
  have i2 := (h.only0 o1).only0 o2
  have hob := h.hl.hc.ob
  have rr := h.row
  have mo1 : mulOk (x : Int) ((2 ^ l : Nat) : Int) = true := mo_small _ _ (by omega)
  have mo2 : mulOk ((x : Int) + 1) ((2 ^ l : Nat) : Int) = true := mo_small _ _ (by omega)
  have q1 := mNe_ii (rtN m (dRow (digS m S) (x * 2 ^ l) (2 ^ l)) l) (rtN m (dRow (digS m S) (x * 2 ^ l) (2 ^ l)) l) st2
  simp only [decide_true, Bool.not_true] at q1
  have hhead : ∀ (o : SO), (∀ y19, y19 = W.lst ((dRow (digS m S) (x * 2 ^ l) (2 ^ l)).map W.int) → (mIfS (mTest (mOp mGt (mVar 16) (mC (W.int 0)))) (mSeq (mAsg (mSl (mVar 19) mNoPart (mPart (mOp mFdiv (mVar 17) (mC (W.int 2))))) (mGN 20))
  (mSeq (mAsg (mTup (mCons (mCall 2 m_root_of (mCons (mVar 2) (mCons (mVar 20) mNil))) (mCons (mCall 2 m_root_of (mCons (mVar 2) (mCons (mSl (mVar 19) (mPart (mOp mFdiv (mVar 17) (mC (W.int 2)))) mNoPart) mNil))) (mCons (mOp mIx (mVar 20) (mUn mNeg (mC (W.int 1)))) (mCons (mCall 3 m_path_of (mCons (mVar 2) (mCons (mVar 20) (mCons (mOp mSub (mCB mLen (mCons (mVar 20) mNil)) (mC (W.int 1))) mNil)))) mNil))))) (mGN 21))
  (mIfS (mTest (mOp mNe (mMeth 4 "halves" 3 m_History_halves (mVar 9) (mCons (mVar 16) (mCons (mVar 18) mNil))) (mVar 21))) (mRet (mC (W.bl false))) mSkip))) mSkip) [x0, x1, some (.ref j), x3, x4, some (.int ((2 ^ k : Nat) : Int)), x6, x7, x8, some (.ref H), some (.ref R), some (.ref O), x12, x13, x14, x15, some (.int (l : Int)), some (.int ((2 ^ l : Nat) : Int)), some (.int (x : Int)), some y19, x20, x21, x22, x23] st2 = o) →
      l2_law [x0, x1, some (.ref j), x3, x4, some (.int ((2 ^ k : Nat) : Int)), x6, x7, x8, some (.ref H), some (.ref R), some (.ref O), x12, x13, x14, x15, some (.int (l : Int)), some (.int ((2 ^ l : Nat) : Int)), some (.int (x : Int)), x19, x20, x21, x22, x23] st = o := by
    intro o ho
    have ho' := ho _ rfl
    clear ho
    generalize (rowD (digS m S) (2 ^ k)).map W.int = RW at *
    generalize rtN m (dRow (digS m S) (x * 2 ^ l) (2 ^ l)) l = RT at *
    generalize (dRow (digS m S) (x * 2 ^ l) (2 ^ l)).map W.int = PW at *
    generalize 2 ^ l = P at *
    generalize 2 ^ k = C at *
    unfold l2_law
    refine seq_nx (s1 := [x0, x1, some (.ref j), x3, x4, some (.int (C : Int)), x6, x7, x8, some (.ref H), some (.ref R), some (.ref O), x12, x13, x14, x15, some (.int (l : Int)), some (.int (P : Int)), some (.int (x : Int)), some (.lst PW), x20, x21, x22, x23]) (st1 := st) (by simp [-mulOk, rr, mo1, mo2, hcut]) ?_
    refine seq_nx (s1 := [x0, x1, some (.ref j), x3, x4, some (.int (C : Int)), x6, x7, x8, some (.ref H), some (.ref R), some (.ref O), x12, x13, x14, x15, some (.int (l : Int)), some (.int (P : Int)), some (.int (x : Int)), some (.lst PW), x20, x21, x22, x23]) (st1 := st2) (by simp [-mNe, hob, e1, e2, q1]) ?_
    exact ho'
  cases l with
  | zero =>
    refine ⟨some (.lst ((dRow (digS m S) (x * 2 ^ 0) (2 ^ 0)).map W.int)), x20, x21, st2, hhead _ ?_, ⟨i2.hl.mono (by omega) (by omega), i2.row, i2.ops⟩, (o1.trans o2 (by simp)).mono (by simp)⟩
    rintro y19 rfl
    generalize (dRow (digS m S) (x * 2 ^ 0) (2 ^ 0)).map W.int = PW at *
    simp
  | succ l =>
    have hp0 := Nat.two_pow_pos l
    have hsz : 2 ^ (l + 1) = 2 ^ l + 2 ^ l := by rw [Nat.pow_succ]; omega
    have hA0 : x * 2 ^ (l + 1) = 2 * x * 2 ^ l := by rw [Nat.pow_succ, Nat.mul_comm (2 ^ l), ← Nat.mul_assoc, Nat.mul_comm x 2]
    have hA1 : (2 * x + 1) * 2 ^ l = 2 * x * 2 ^ l + 2 ^ l := Nat.succ_mul _ _
    have dg2 := i2.hl.hc.dg
    have hleft : ((dRow (digS m S) (x * 2 ^ (l + 1)) (2 ^ (l + 1))).map W.int).take (2 ^ l) = (dRow (digS m S) (2 * x * 2 ^ l) (2 ^ l)).map W.int := by rw [dRow_takeW _ _ _ _ (by omega), hA0]
    have hright : ((dRow (digS m S) (x * 2 ^ (l + 1)) (2 ^ (l + 1))).map W.int).drop (2 ^ l) = (dRow (digS m S) ((2 * x + 1) * 2 ^ l) (2 ^ l)).map W.int := by
      rw [dRow_dropW _ _ _ _ (by omega), hA0, hA1]; congr 2; omega
    have hlast := dRow_last (digS m S) (2 * x * 2 ^ l) (2 ^ l) hp0
    rw [← hA1] at hlast
    obtain ⟨st3, e3, o3⟩ := dr_root (S := S) hm hm1 (2 * x * 2 ^ l) l (by omega) (.lst ((dRow (digS m S) (2 * x * 2 ^ l) (2 ^ l)).map W.int)) st2 (.inl rfl) dg2
    have i3 := i2.only0 o3
    obtain ⟨st4, e4, o4⟩ := dr_root (S := S) hm hm1 ((2 * x + 1) * 2 ^ l) l (by omega) (.lst ((dRow (digS m S) ((2 * x + 1) * 2 ^ l) (2 ^ l)).map W.int)) st3 (.inl rfl) i3.hl.hc.dg
    have i4 := i3.only0 o4
    obtain ⟨st5, e5, o5⟩ := dr_path (S := S) hm hm1 (2 * x * 2 ^ l) l (2 ^ l - 1) (by omega) (by omega) (.lst ((dRow (digS m S) (2 * x * 2 ^ l) (2 ^ l)).map W.int)) st4 (.inl rfl) i4.hl.hc.dg
    have i5 := i4.only0 o5
    obtain ⟨st6, e6, o6, h6⟩ := i5.hl.halves hm hm1 hF (by omega) l x hl hx2
    obtain ⟨n1, n2, n3', n4'⟩ := h.ne
    refine ⟨some (.lst ((dRow (digS m S) (x * 2 ^ (l + 1)) (2 ^ (l + 1))).map W.int)), some (.lst ((dRow (digS m S) (2 * x * 2 ^ l) (2 ^ l)).map W.int)), some (halfW m S l x), st6, hhead _ ?_, ⟨h6, o6.rd i5.row (by simpa using n1), o6.rd i5.ops (by simpa using n3')⟩, ((((o1.trans o2 (by simp)).trans o3 (by simp)).trans o4 (by simp)).trans o5 (by simp)).mono (B := [a3]) (by simp) |>.trans o6 (by simp)⟩
    rintro y19 rfl
    have hob5 := i5.hl.hc.ob
    have hlw : ((dRow (digS m S) (2 * x * 2 ^ l) (2 ^ l)).map W.int).length = 2 ^ l := by simp [dRow_len]
    have hhalf : halfW m S l x = .tup [.int (rtN m (dRow (digS m S) (2 * x * 2 ^ l) (2 ^ l)) l), .int (rtN m (dRow (digS m S) ((2 * x + 1) * 2 ^ l) (2 ^ l)) l), .int (digS m S ((2 * x + 1) * 2 ^ l)), .tup ((paN m (dRow (digS m S) (2 * x * 2 ^ l) (2 ^ l)) l (2 ^ l - 1)).map W.int)] := rfl
    have q2 := mNe_pv (by omega) (halfW_pv m S l x) st6
    have hdiv : (((2 ^ (l + 1) : Nat) : Int) / 2) = ((2 ^ l : Nat) : Int) := by omega
    have hcA := cutA ((dRow (digS m S) (x * 2 ^ (l + 1)) (2 ^ (l + 1))).map W.int) (2 ^ l)
    rw [hleft] at hcA
    have hcB := cutB ((dRow (digS m S) (x * 2 ^ (l + 1)) (2 ^ (l + 1))).map W.int) (2 ^ l)
    rw [hright] at hcB
    have hpm : ((2 ^ l - 1 : Nat) : Int) = ((2 ^ l : Nat) : Int) - 1 := by omega
    rw [hpm] at e5
    have lg2 : (2 : Nat).log2 < 9000 := by decide
    have hlp : (0 : Int) < ((l + 1 : Nat) : Int) := by omega
    rw [hhalf] at q2 e6 ⊢
    clear i2 i3 i4 i5 h6 hhead
    generalize rtN m (dRow (digS m S) (2 * x * 2 ^ l) (2 ^ l)) l = R1 at *
    generalize rtN m (dRow (digS m S) ((2 * x + 1) * 2 ^ l) (2 ^ l)) l = R2 at *
    generalize digS m S ((2 * x + 1) * 2 ^ l) = DD at *
    generalize (paN m (dRow (digS m S) (2 * x * 2 ^ l) (2 ^ l)) l (2 ^ l - 1)).map W.int = PA at *
    generalize (dRow (digS m S) (2 * x * 2 ^ l) (2 ^ l)).map W.int = LW at *
    generalize (dRow (digS m S) ((2 * x + 1) * 2 ^ l) (2 ^ l)).map W.int = RWW at *
    generalize (dRow (digS m S) (x * 2 ^ (l + 1)) (2 ^ (l + 1))).map W.int = PW at *
    generalize ((2 ^ (l + 1) : Nat) : Int) = Q at *
    generalize ((l + 1 : Nat) : Int) = ll at *
    generalize 2 ^ l = P at *
    refine ifS_true (st1 := st2) (by simp [hlp]) ?_
    refine seq_nx (s1 := [x0, x1, some (.ref j), x3, x4, some (.int ((2 ^ k : Nat) : Int)), x6, x7, x8, some (.ref H), some (.ref R), some (.ref O), x12, x13, x14, x15, some (.int ll), some (.int Q), some (.int (x : Int)), some (.lst PW), some (.lst LW), x21, x22, x23]) (st1 := st2) (by simp [hdiv, lg2, hcA]) ?_
    refine seq_nx (s1 := [x0, x1, some (.ref j), x3, x4, some (.int ((2 ^ k : Nat) : Int)), x6, x7, x8, some (.ref H), some (.ref R), some (.ref O), x12, x13, x14, x15, some (.int ll), some (.int Q), some (.int (x : Int)), some (.lst PW), some (.lst LW), some (.tup [.int R1, .int R2, .int DD, .tup PA]), x22, x23]) (st1 := st5) (by simp [e3, hdiv, lg2, hcB, e4, hlast, hlw, e5, sizeLine_eq]) ?_
    simp [-mNe, hob5, e6, q2]
end
end Gn

namespace Gn
open PySem L2 Mi
/-! ### the form of openings -/
def isI (w : W) (a b : Int) : Bool := match w with
  | .int x => decide (a ≤ x) && decide (x ≤ b)
  | _ => false
/-- a value without objects of the store -/
def plainW : W → Bool
  | .ref _ => false
  | _ => true
theorem t_isinteger (w : W) (a b : Int) (st : Sto) (h : plainW w = true) : m_is_integer [w, .int a, .int b] st = .ok (.bl (isI w a b)) st := by
  simp only [m_is_integer, b_is_integer]
  cases w with
  | int x =>
    by_cases h1 : a ≤ x
    · simp [isI, h1]
    · simp [isI, h1]
  | ref i => cases h
  | bl b => cases b <;> simp [isI]
  | _ => simp [isI]
theorem t_isword (w : W) (st : Sto) (h : plainW w = true) : m_is_word [w] st = .ok (.bl (isI w 0 65535)) st := by
  have e := t_isinteger w 0 65535 st h
  simp only [m_is_word, b_is_word, w_MOST_WORD]
  simp [e]
theorem t_isdigest {m : Int} {j : Nat} {st : Sto} (hD : DigAt m st j) (w : W) (h : plainW w = true) : m_Digests_is_digest [.ref j, w] st = .ok (.bl (isI w 0 (m - 1))) st := by
  have e := t_isinteger w 0 (m - 1) st h
  obtain ⟨_, ho, b, rfl⟩ := hD
  simp only [m_Digests_is_digest, b_Digests_is_digest]
  simp [ho, e]
def areR (m : Int) : W → Bool
  | .tup [a, b, c, d, e, f] => isI a 0 255 && isI b 0 65535 && isI c 0 65535 && isI d 0 6 && isI e 0 (m - 1) && isI f 0 16
  | _ => false
section
variable {m : Int} {j : Nat} {st : Sto} (hD : DigAt m st j)
include hD
theorem t_areregs (w : W) (h : plainW w = true) (hi : ∀ ws, w = .tup ws → ∀ x ∈ ws, plainW x = true) : m_are_registers [.ref j, w] st = .ok (.bl (areR m w)) st := by
  have hm : w_MARKS = W.tup [.str "long", .str "done", .str "divided", .str "place", .str "input", .str "full", .str "bad"] := rfl
  simp only [m_are_registers, b_are_registers, w_PLACES, w_MOST_TOLD]
  cases w with
  | tup ws =>
    match ws, hi ws rfl with
    | [a, b, c, d, e, f], hp =>
      have ea := t_isinteger a 0 255 st (hp a (by simp))
      have eb := t_isword b st (hp b (by simp))
      have ec := t_isword c st (hp c (by simp))
      have ed := t_isinteger d 0 6 st (hp d (by simp))
      have ee := t_isdigest hD e (hp e (by simp))
      have ef := t_isinteger f 0 16 st (hp f (by simp))
      obtain ⟨_, ho, bb, rfl⟩ := hD
      cases h1 : isI a 0 255 <;> cases h2 : isI b 0 65535 <;> cases h3 : isI c 0 65535 <;> cases h4 : isI d 0 6 <;> cases h5 : isI e 0 (m - 1) <;>
        simp [areR, ea, eb, ec, ed, ee, ef, h1, h2, h3, h4, h5, hm, ho]
    | [], _ => simp [areR]
    | [a], _ => simp [areR]
    | [a, b], _ => simp [areR]
    | [a, b, c], _ => simp [areR]
    | [a, b, c, d], _ => simp [areR]
    | [a, b, c, d, e], _ => simp [areR]
    | a :: b :: c :: d :: e :: f :: g :: r, _ =>
      have h7 : ¬ (r.length : Int) + 1 + 1 + 1 + 1 + 1 + 1 + 1 = 6 := by omega
      simp [areR, h7]
  | ref i => cases h
  | _ => simp [areR]
end
end Gn

namespace Gn
open PySem L2 Mi
/-! ### parts, openings -/
theorem boolsW_map {α : Type} (f : α → Bool) : ∀ l : List α, boolsW (l.map fun x => W.bl (f x)) = some (l.map f)
  | [] => rfl
  | x :: l => by simp [boolsW_map f l]
theorem mAll_map {α : Type} (f : α → Bool) (l : List α) (st : Sto) : mAll [.lst (l.map fun x => W.bl (f x))] st = .ok (.bl (l.all f)) st := by
  simp only [mAll, asL, boolsW_map]
  rw [List.all_map]; rfl
/-- all([.. for x in a tuple]) -/
theorem all_tup {it : MI} {n v : Nat} {e : ME} {s : Slo} {st : Sto} {ws : List W} (f : W → Bool) (hi : it s st = .ok (.vals ws) st) (hl : ws.length ≤ 1000000) (h : ∀ w ∈ ws, e ((wipeW s [v]).set v (some w)) st = .ok (.bl (f w)) st) :
    mCB mAll (mCons (mLc it (.nm v) mYes e [v]) mNil) s st = .ok (.bl (ws.all f)) st := by
  have z := mLc_of (n := .nm v) (t := mYes) (e := e) (vs := [v]) hi hl (fun _ => true) (fun w => .bl (f w)) (fun w hw => ⟨_, rfl, rfl, fun _ => h w hw⟩)
  rw [filter_yes] at z
  simp only [mCB, mCons, z, Out.bind, mNil, mAll_map f ws]
def isP (m : Int) : W → Bool
  | .tup [a, .tup p] => isI a 0 65535 && decide (p.length = 8) && p.all fun x => isI x 0 (m - 1)
  | _ => false
section
variable {m : Int} {j : Nat} {st : Sto} (hD : DigAt m st j)
include hD
theorem t_ispart (a : W) (p : List W) (ha : plainW a = true) (hp : ∀ x ∈ p, plainW x = true) (hl : p.length ≤ 1000000) : m_is_part [.ref j, .tup [a, .tup p]] st = .ok (.bl (isP m (.tup [a, .tup p]))) st := by
  have e1 := t_isword a st ha
  have e2 := all_tup (it := mITup (mOp mIx (mVar 1) (mC (W.int 1)))) (n := 2) (v := 2) (e := e0_is_part) (s := [some (.ref j), some (.tup [a, .tup p]), none]) (st := st) (ws := p) (fun x => isI x 0 (m - 1)) (by simp) hl (fun w hw => by
    have e := t_isdigest hD w (hp w hw)
    obtain ⟨_, ho, bb, rfl⟩ := hD
    simp [e0_is_part, wipeW, ho, e])
  have h8 : ((p.length : Int) = 8) = (p.length = 8) := by apply propext; omega
  refine def_rt rfl ?_
  show b_is_part [some (.ref j), some (.tup [a, .tup p]), none] st = _
  unfold b_is_part
  simp only [w_DEPTH]
  by_cases h1 : isI a 0 65535 = true
  · by_cases h2 : p.length = 8
    · refine seq_nx (by simp [e1, h1]; exact ⟨rfl, rfl⟩) ?_
      refine seq_nx (by simp [h8, h2]; exact ⟨rfl, rfl⟩) ?_
      simp only [mRet, e2, Out.run]
      simp [isP, h1, h2]
    · refine seq_nx (by simp [e1, h1]; exact ⟨rfl, rfl⟩) ?_
      refine seq_rt ?_
      simp [h8, h2, isP]
  · refine seq_rt ?_
    simp at h1
    simp [e1, h1, isP]
def isO (m : Int) : W → Bool
  | .tup [r, d, .tup ps] => areR m r && isI d 0 (m - 1) && ps.all (isP m)
  | _ => false
theorem t_isopening (r : Rg) (d : Int) (ps : List (Int × List Int)) (hl : ps.length ≤ 1000) (hp : ∀ q ∈ ps, q.2.length ≤ 1000000) :
    m_is_opening [.ref j, .tup [rgW r, .int d, .tup (ps.map fun q => prt q.1 q.2)]] st = .ok (.bl (isO m (.tup [rgW r, .int d, .tup (ps.map fun q => prt q.1 q.2)]))) st := by
  have e1 := t_areregs hD (rgW r) rfl (fun ws h x hx => by injection h with h; subst h; simp at hx; rcases hx with rfl | rfl | rfl | rfl | rfl | rfl <;> rfl)
  have e2 := t_isdigest hD (.int d) rfl
  have e3 := all_tup (it := mITup (mOp mIx (mVar 1) (mC (W.int 2)))) (n := 2) (v := 2) (e := e0_is_opening) (s := [some (.ref j), some (.tup [rgW r, .int d, .tup (ps.map fun q => prt q.1 q.2)]), none]) (st := st) (ws := ps.map fun q => prt q.1 q.2) (isP m) (by simp) (by rw [List.length_map]; omega) (fun w hw => by
    simp only [List.mem_map] at hw
    obtain ⟨q, hq, rfl⟩ := hw
    have e := t_ispart hD (.int q.1) (q.2.map W.int) rfl (fun x hx => by simp only [List.mem_map] at hx; obtain ⟨y, _, rfl⟩ := hx; rfl) (by rw [List.length_map]; exact hp q hq)
    simp only [prt]
    simp [e0_is_opening, wipeW, e])
  generalize (ps.map fun q => prt q.1 q.2) = Q at *
  refine def_rt rfl ?_
  show b_is_opening [some (.ref j), some (.tup [rgW r, .int d, .tup Q]), none] st = _
  unfold b_is_opening
  refine seq_nx (by simp; exact ⟨rfl, rfl⟩) ?_
  obtain ⟨_, ho, bb, rfl⟩ := hD
  by_cases h1 : areR m (rgW r) = true
  · by_cases h2 : isI (.int d) 0 (m - 1) = true
    · refine seq_nx (by simp [e1, h1, ho, e2, h2]; exact ⟨rfl, rfl⟩) ?_
      simp only [mRet, e3, Out.run]
      simp [isO, h1, h2]
    · refine seq_rt ?_
      simp only [Bool.not_eq_true] at h2
      simp [e1, h1, ho, e2, h2, isO]
  · refine seq_rt ?_
    simp only [Bool.not_eq_true] at h1
    simp [e1, h1, isO]
end
end Gn

namespace Gn
open PySem L2 Mi
/-! ### roots by paths -/
def rbS (m : Int) (q : Nat × Int) (x : Int) : Nat × Int := (q.1 / 2, if q.1 % 2 = 0 then foldN m q.2 x else foldN m x q.2)
def rootB (m : Int) (p : Nat) (d : Int) (ps : List Int) : Int := (ps.foldl (rbS m) (p, d)).2
theorem rbS_in {m : Int} (hm : 0 < m) : ∀ (ps : List Int) (q : Nat × Int), In m q.2 → In m (ps.foldl (rbS m) q).2
  | [], q, h => h
  | x :: ps, q, h => rbS_in hm ps _ (by unfold rbS; simp only []; split <;> exact in_fold hm _ _)
section
variable {m : Int} {j : Nat} {st : Sto} (hm : 0 < m) (hm1 : m < 18446744073709551616) (hD : DigAt m st j)
include hm hm1 hD
theorem t_rootby (p : Nat) (d : Int) (ps : List Int) (hd : In m d) (hp : ∀ x ∈ ps, In m x) : m_root_by [.ref j, .int (p : Int), .int d, .tup (ps.map W.int)] st = .ok (.int (rootB m p d ps)) st := by
  obtain ⟨s8, t8, hlp, ⟨x, rfl⟩, ht8⟩ := loop_st (ws := ps.map W.int) (g := mGN 5) (n := ps.length) (s := [some (.ref j), some (.int (p : Int)), some (.int d), some (.tup (ps.map W.int)), some (.int d), none]) (st := st) (body := l0_root_by) (by simp)
    (fun k s t => (∃ x : Option W, s = [some (.ref j), some (.int ((((ps.take k).foldl (rbS m) (p, d)).1 : Nat) : Int)), some (.int d), some (.tup (ps.map W.int)), some (.int ((ps.take k).foldl (rbS m) (p, d)).2), x]) ∧ t = st)
    ⟨⟨none, by simp⟩, rfl⟩ (by
      rintro k w s t hw ⟨⟨x, rfl⟩, rfl⟩
      rw [List.getElem?_map, Option.map_eq_some_iff] at hw
      obtain ⟨y, hy, rfl⟩ := hw
      refine ⟨_, _, rfl, ?_⟩
      have e := take_foldl (rbS m) (p, d) ps k y hy
      have hin := rbS_in hm (ps.take k) (p, d) hd
      have hyi := hp y (List.mem_of_getElem? hy)
      rw [e]
      generalize (ps.take k).foldl (rbS m) (p, d) = q at hin ⊢
      obtain ⟨q1, q2⟩ := q
      simp only at hin
      have f1 := t_fold hm hm1 hD q2 y hin hyi
      have f2 := t_fold hm hm1 hD y q2 hyi hin
      obtain ⟨_, ho, bb, rfl⟩ := hD
      have l2 : (2 : Nat).log2 < 9000 := by decide
      have hh : (q1 : Int) / 2 = ((q1 / 2 : Nat) : Int) := by omega
      simp only [mGN, List.set, rbS]
      by_cases h : q1 % 2 = 0
      · have h' : (q1 : Int) % 2 = 0 := by omega
        simp [l0_root_by, h, h', ho, f1, l2]
      · have h' : ¬ (q1 : Int) % 2 = 0 := by omega
        simp [l0_root_by, h, h', ho, f2, l2])
  rw [List.take_length] at hlp
  have ht8' := ht8.symm
  subst ht8'
  refine def_rt rfl ?_
  show b_root_by [some (.ref j), some (.int (p : Int)), some (.int d), some (.tup (ps.map W.int)), none, none] st = _
  unfold b_root_by
  refine seq_nx (by simp; exact ⟨rfl, rfl⟩) ?_
  refine seq_nx (mFor_vals (ws := ps.map W.int) rfl (by simp) hlp) ?_
  simp [rootB]
end
end Gn

namespace Gn
open PySem L2 Mi
section
variable {m : Int} {j : Nat} {st : Sto} (hm : 0 < m) (hm1 : m < 18446744073709551616) (hD : DigAt m st j)
include hm hm1 hD
theorem t_rootwith (p : Nat) (v : Int) (ps : List Int) (hp : ∀ x ∈ ps, In m x) : m_root_with [.ref j, .int (p : Int), .int v, .tup (ps.map W.int)] st = .ok (.int (rootB m p (leafN m v) ps)) st := by
  have e1 := t_rootby hm hm1 hD p (leafN m v) ps (in_leaf hm v) hp
  have e2 := t_leaf hm hD v
  obtain ⟨_, ho, bb, rfl⟩ := hD
  simp only [m_root_with, b_root_with]
  simp [ho, e2, e1]
end
/-- the path of a place leads from any word there to the root with this word -/
theorem path_root (m : Int) (words : List Int) (hl : words.length = 256) (p : Nat) (hp : p < 256) (v : Int) : rootB m p (leafN m v) (pathN m words p) = gt (lv m (words.set p v) 8) 0 := by
  have key : ∀ k, k ≤ 8 → ((pathN m words p).take k).foldl (rbS m) (p, leafN m v) = (p / 2 ^ k, gt (lv m (words.set p v) k) (p / 2 ^ k)) := by
    intro k
    induction k with
    | zero =>
      intro _
      show (p, leafN m v) = (p / 2 ^ 0, gt ((words.set p v).map (leafN m)) (p / 2 ^ 0))
      rw [Nat.pow_zero, Nat.div_one, List.map_set, getD_set_self (by simp [hl, hp])]
    | succ k ih =>
      intro hk
      have hk8 : k < 8 := by omega
      have hsz : (pathN m words p)[k]? = some (gt (lv m words k) (sib (p / 2 ^ k))) := by simp [pathN, hk8]
      rw [take_foldl _ _ _ _ _ hsz, ih (by omega)]
      obtain ⟨p1, p2, p3, p4, p5⟩ := pow_sm k hk8
      have hq : p / 2 ^ k < 256 / 2 ^ k := Nat.div_lt_div_of_lt_of_dvd (pow_dv k (by omega)) hp
      have e2 : p / 2 ^ (k + 1) = p / 2 ^ k / 2 := by rw [Nat.div_div_eq_div_mul, Nat.pow_succ]
      have hset : lv m (words.set p v) k = (lv m words k).set (p / 2 ^ k) (gt (lv m (words.set p v) k) (p / 2 ^ k)) := by
        have z := lev_set (foldN m) (words.map (leafN m)) p (leafN m v) (by simp [hl, hp]) k (by rw [List.length_map, hl]; exact pow_dv k (by omega))
        rw [← List.map_set] at z
        exact z
      have hln : (lv m (words.set p v) k).length = 256 / 2 ^ k := lv_len (by simpa using hl) k
      have hnx : gt (lv m (words.set p v) (k + 1)) (p / 2 ^ k / 2) = foldN m (gt (lv m (words.set p v) k) (2 * (p / 2 ^ k / 2))) (gt (lv m (words.set p v) k) (2 * (p / 2 ^ k / 2) + 1)) := prs_getD _ _ _ (by rw [hln]; omega)
      rw [e2, hnx]
      have hs : gt (lv m words k) (sib (p / 2 ^ k)) = gt (lv m (words.set p v) k) (sib (p / 2 ^ k)) := by
        rw [hset, getD_set_ne (by unfold sib; omega)]
      rw [hs]
      generalize p / 2 ^ k = q
      generalize lv m (words.set p v) k = L
      unfold rbS
      by_cases h : q % 2 = 0
      · have a1 : 2 * (q / 2) = q := by omega
        have a2 : sib q = q + 1 := by unfold sib; omega
        simp only [h, if_true, a1, a2]
      · have a1 : 2 * (q / 2) + 1 = q := by omega
        have a2 : sib q = 2 * (q / 2) := by unfold sib; omega
        simp only [h, if_false, a1, a2]
  have h8 := key 8 (Nat.le_refl 8)
  rw [List.take_of_length_le (by rw [path_len]; exact Nat.le_refl _)] at h8
  unfold rootB
  rw [h8]
  show gt (lv m (words.set p v) 8) (p / 2 ^ 8) = _
  rw [show p / 2 ^ 8 = 0 by omega]
theorem path_in {m : Int} (hm : 0 < m) (hm1 : m < 18446744073709551616) {words : List Int} (hl : words.length = 256) (p : Nat) : ∀ x ∈ pathN m words p, In m x := by
  intro x hx
  simp only [pathN, List.mem_map] at hx
  obtain ⟨k, _, rfl⟩ := hx
  exact getD_in hm (lev_ok hm hm1 hl k).2 _
theorem set_gt {words : List Int} {p : Nat} (h : p < words.length) : words.set p (gt words p) = words := by
  have e : gt words p = words[p] := by simp [gt, List.getD, h]
  rw [e, List.set_getElem_self]
theorem path_root0 (m : Int) (words : List Int) (hl : words.length = 256) (p : Nat) (hp : p < 256) : rootB m p (leafN m (gt words p)) (pathN m words p) = gt (lv m words 8) 0 := by
  have h := path_root m words hl p hp (gt words p)
  rwa [set_gt (by omega)] at h
end Gn

namespace Gn
open PySem L2 Mi
/-! ### the step that an opening shows -/
theorem t_must (st : Sto) : m_must [.bl true] st = .ok .non st := by
  simp only [m_must, b_must]
  simp
theorem ne_nil1 (a : Int) (p : List Int) (st : Sto) : mNe (.tup [.tup [.int a, .tup (p.map W.int)]]) (.tup []) st = .ok (.bl true) st := by simp [lay_ints, dep_ints]
theorem ne_nil2 (a : Int) (p : List Int) (b : Int) (q : List Int) (st : Sto) : mNe (.tup [.tup [.int a, .tup (p.map W.int)], .tup [.int b, .tup (q.map W.int)]]) (.tup []) st = .ok (.bl true) st := by simp [lay_ints, dep_ints]
theorem isI_ok {x a b : Int} (h : a ≤ x ∧ x ≤ b) : isI (.int x) a b = true := by simp [isI, h.1, h.2]
theorem areR_ok {m : Int} {g : Rg} (h : Good m g) : areR m (rgW g) = true := by
  obtain ⟨h1, h2, h3, h4, h5, h6⟩ := h
  simp only [Word] at h2 h3
  have a1 := isI_ok (x := g.pc) (a := 0) (b := 255) (by omega)
  have a2 := isI_ok (x := g.acc) (a := 0) (b := 65535) (by omega)
  have a3 := isI_ok (x := g.x) (a := 0) (b := 65535) (by omega)
  have a4 := isI_ok (x := g.mrk) (a := 0) (b := 6) (by omega)
  have a5 := isI_ok (x := g.out) (a := 0) (b := m - 1) (by omega)
  have a6 := isI_ok (x := g.cnt) (a := 0) (b := 16) (by omega)
  simp only [areR, a1, a2, a3, a4, a5, a6, Bool.and_self]
theorem isP_ok {m : Int} (hm : 0 < m) {a : Int} (ha : Word a) {p : List Int} (hl : p.length = 8) (hp : ∀ x ∈ p, In m x) : isP m (prt a p) = true := by
  have h1 : isI (.int a) 0 65535 = true := isI_ok (by simp only [Word] at ha; omega)
  have h2 : (p.map W.int).all (fun x => isI x 0 (m - 1)) = true := by
    rw [List.all_eq_true]
    intro w hw
    simp only [List.mem_map] at hw
    obtain ⟨x, hx, rfl⟩ := hw
    have := hp x hx
    simp only [In] at this
    exact isI_ok (by omega)
  simp only [isP, prt, h1, h2, List.length_map, hl, decide_true, Bool.and_self]
section
variable {m : Int} (hm : 7 < m) (hm1 : m < 4611686018427387904) {s : Ms} (h : Ok m s)
include hm hm1 h
theorem isO_ok : isO m (openW m s) = true := by
  have h0 : 0 < m := by omega
  have hr : In m (gt (lv m s.w 8) 0) := getD_in h0 (lev_ok h0 (by omega) h.wl 8).2 0
  have hr' : isI (.int (gt (lv m s.w 8) 0)) 0 (m - 1) = true := isI_ok (by simp only [In] at hr; omega)
  have hps : ((opParts m s).map fun q => prt q.1 q.2).all (isP m) = true := by
    rw [List.all_map, List.all_eq_true]
    intro q hq
    have hpp : ∀ p, isP m (prt (gt s.w p) (pathN m s.w p)) = true := fun p => isP_ok h0 (gt_word h.ww p) (path_len _ _ _) (path_in h0 (by omega) h.wl p)
    unfold opParts at hq
    split at hq
    · split at hq
      · simp only [List.mem_cons, List.not_mem_nil, or_false] at hq
        rcases hq with rfl | rfl <;> exact hpp _
      · simp only [List.mem_cons, List.not_mem_nil, or_false] at hq
        subst hq; exact hpp _
    · simp at hq
  simp only [isO, areR_ok h.go, hr', hps, Bool.and_self]
theorem t_stepof {j : Nat} {st : Sto} (hD : DigAt m st j) : m_step_of [.ref j, .int (digN m s.g s.w), openW m s] st = .ok (.int (digN m (nx m s).g (nx m s).w)) st := by
  have h0 : 0 < m := by omega
  have hl1 : (opParts m s).length ≤ 1000 := by
    unfold opParts
    split
    · split <;> simp
    · simp
  have hio := t_isopening hD s.g (gt (lv m s.w 8) 0) (opParts m s) hl1 (fun q hq => by
    unfold opParts at hq
    split at hq
    · split at hq
      · simp only [List.mem_cons, List.not_mem_nil, or_false] at hq
        rcases hq with rfl | rfl <;> simp [pathN]
      · simp only [List.mem_cons, List.not_mem_nil, or_false] at hq
        subst hq; simp [pathN]
    · simp at hq)
  rw [isO_ok hm hm1 h] at hio
  have hst := t_state (by omega : 3 < m) hm1 hD (rgL s.g ++ [gt (lv m s.w 8) 0])
  have hst2 := t_state (by omega : 3 < m) hm1 hD (rgL (nx m s).g ++ [gt (lv m (nx m s).w 8) 0])
  have hdg : stateN m (rgL s.g ++ [gt (lv m s.w 8) 0]) = digN m s.g s.w := rfl
  have hdg2 : stateN m (rgL (nx m s).g ++ [gt (lv m (nx m s).w 8) 0]) = digN m (nx m s).g (nx m s).w := rfl
  rw [hdg] at hst
  rw [hdg2] at hst2
  have hmust := t_must st
  have hobj := hD
  obtain ⟨_, ho, bb, rfl⟩ := hobj
  simp only [rgL, List.map_cons, List.map_nil, List.cons_append, List.nil_append] at hst hst2
  by_cases hk : s.g.mrk = 0
  · have hgo := h.go
    have hpc : s.g.pc = (s.g.pc.toNat : Int) := by have := hgo.pc.1; omega
    have hpl : s.g.pc.toNat < 256 := by have := hgo.pc; omega
    have pin := plB_in (nOf s.g s.w) (aOf s.g s.w) s.g.x
    have hplb : plB (nOf s.g s.w) (aOf s.g s.w) s.g.x = ((plN s : Nat) : Int) := by unfold plN; omega
    have hpl2 : plN s < 256 := by unfold plN; omega
    have hwd : Word (gt s.w s.g.pc.toNat) := gt_word h.ww _
    have hd : Word (dOf s.g s.w) := gt_word h.ww _
    have hdOf : dOf s.g s.w = gt s.w (plN s) := rfl
    have hn : gt s.w s.g.pc.toNat / 1024 = (nOf s.g s.w : Int) := by have := hwd.1; unfold nOf; omega
    have ha : gt s.w s.g.pc.toNat % 1024 = (aOf s.g s.w : Int) := by unfold aOf; omega
    have hdo := t_data_of (gt s.w s.g.pc.toNat) (nOf s.g s.w) (aOf s.g s.w) hn ha (.int s.g.pc) (.int s.g.acc) (.int s.g.mrk) (.int s.g.out) (.int s.g.cnt) s.g.x st
    have hdn := fun dw hdw => t_done h0 (by omega) hD (gt s.w s.g.pc.toNat) (nOf s.g s.w) (aOf s.g s.w) hn ha s.g.pc s.g.acc s.g.x s.g.mrk s.g.out s.g.cnt (dOf s.g s.w) dw hgo.acc hd hgo.out hdw
    have n1 : (nx m s).g = stepG m s.g s.w := if_pos hk
    have n2 : (nx m s).w = stepW s.g s.w := if_pos hk
    have hrw1 := t_rootwith h0 (by omega) hD s.g.pc.toNat (gt s.w s.g.pc.toNat) (pathN m s.w s.g.pc.toNat) (path_in h0 (by omega) h.wl _)
    rw [path_root0 m s.w h.wl _ hpl, ← hpc] at hrw1
    have hrw2 := t_rootwith h0 (by omega) hD (plN s) (gt s.w (plN s)) (pathN m s.w (plN s)) (path_in h0 (by omega) h.wl _)
    rw [path_root0 m s.w h.wl _ hpl2] at hrw2
    have hrw3 := fun v => t_rootwith h0 (by omega) hD (plN s) v (pathN m s.w (plN s)) (path_in h0 (by omega) h.wl _)
    simp only [path_root m s.w h.wl _ hpl2] at hrw3
    by_cases hh : hasO s
    · have hop : opParts m s = [(gt s.w s.g.pc.toNat, pathN m s.w s.g.pc.toNat), (gt s.w (plN s), pathN m s.w (plN s))] := by simp only [opParts, hk, hh, if_true]
      have hda : ∃ b, daW (nOf s.g s.w) (aOf s.g s.w) s.g.x = .tup [.int ((plN s : Nat) : Int), .bl b] := by
        unfold hasO at hh
        unfold daW
        by_cases h4 : nOf s.g s.w = 4 ∨ nOf s.g s.w = 6 ∨ nOf s.g s.w = 26
        · rw [if_pos h4, hplb]; exact ⟨_, rfl⟩
        · rw [if_neg h4, if_pos (hh.resolve_left h4), hplb]; exact ⟨_, rfl⟩
      obtain ⟨b, hda⟩ := hda
      rw [hda] at hdo
      have hd1 := hdn (.int (dOf s.g s.w)) (fun _ => rfl)
      obtain ⟨G, hG⟩ : ∃ G, (nx m s).g = G := ⟨_, rfl⟩
      have hres : ∃ wr : Option Int, doneW m (nOf s.g s.w) (aOf s.g s.w) s.g.pc s.g.acc s.g.x s.g.out s.g.cnt (dOf s.g s.w) = .tup [rgW (nx m s).g, wOf wr] ∧ (nx m s).w = (match wr with | some v => s.w.set (plN s) v | none => s.w) := by
        rw [n1, n2]
        unfold doneW stepG stepW mOf
        cases hmo : mkN (nOf s.g s.w) (aOf s.g s.w) s.g.x s.g.cnt s.g.acc (dOf s.g s.w) with
        | some v => exact ⟨none, rfl, rfl⟩
        | none => exact ⟨wrB (nOf s.g s.w) s.g.pc s.g.acc, rfl, by simp only []; cases wrB (nOf s.g s.w) s.g.pc s.g.acc <;> rfl⟩
      obtain ⟨wr, hdw, hww⟩ := hres
      rw [hdw] at hd1
      rw [hdOf] at hd1
      rw [hop] at hio
      rw [openW, hop]
      simp only [List.map_cons, List.map_nil, prt] at hio ⊢
      rw [hww] at hst2
      rw [hww]
      have hne := ne_nil2 (gt s.w s.g.pc.toNat) (pathN m s.w s.g.pc.toNat) (gt s.w (plN s)) (pathN m s.w (plN s)) st
      generalize (nx m s).g = G at *
      generalize (pathN m s.w (plN s)).map W.int = V2 at *
      generalize (pathN m s.w s.g.pc.toNat).map W.int = V1 at *
      first | refine def_rt rfl ?_ | refine defX_rt rfl ?_
      show b_step_of [some (.ref j), some (.int (digN m s.g s.w)), some (.tup [rgW s.g, .int (gt (lv m s.w 8) 0), .tup [.tup [.int (gt s.w s.g.pc.toNat), .tup V1], .tup [.int (gt s.w (plN s)), .tup V2]]]), none, none, none, none, none, none, none, none, none] st = _
      unfold b_step_of
      refine seq_nx (by simp [hio, hmust]; exact ⟨rfl, rfl⟩) ?_
      refine seq_nx (by simp; exact ⟨rfl, rfl⟩) ?_
      refine seq_nx (by simp [-mEq, ho, hst, sizeLine_eq, mEq_ii, hmust]; exact ⟨rfl, rfl⟩) ?_
      refine seq_nx (by simp [-mNe, mNe_ii, hk]; exact ⟨rfl, rfl⟩) ?_
      refine seq_nx (by
        have q : mNe (.tup [.tup [.int (gt s.w s.g.pc.toNat), .tup V1], .tup [.int (gt s.w (plN s)), .tup V2]]) (.tup []) st = .ok (.bl true) st := hne
        simp [-mNe, q, hmust, sizeLine_eq]; exact ⟨rfl, rfl⟩) ?_
      refine seq_nx (by simp; exact ⟨rfl, rfl⟩) ?_
      refine seq_nx (by simp [hdo]; exact ⟨rfl, rfl⟩) ?_
      refine seq_nx (by simp [-mEq, mEq_ii, hmust]; exact ⟨rfl, rfl⟩) ?_
      refine seq_nx (by simp [-mEq, mEq_ii, hrw1, hmust]; exact ⟨rfl, rfl⟩) ?_
      refine seq_nx (by simp; exact ⟨rfl, rfl⟩) ?_
      refine seq_nx (by simp [-mEq, mEq_ii, hrw2, hmust]; exact ⟨rfl, rfl⟩) ?_
      refine seq_nx (by simp [hd1]; exact ⟨rfl, rfl⟩) ?_
      cases wr with
      | none =>
        refine seq_nx (by simp [wOf]; exact ⟨rfl, rfl⟩) ?_
        simp only [] at hst2
        simp [ho, hst2, sizeLine_eq]
      | some v =>
        refine seq_nx (by simp [wOf, hrw3]; exact ⟨rfl, rfl⟩) ?_
        simp only [] at hst2
        simp [ho, hst2, sizeLine_eq]
    · have hop : opParts m s = [(gt s.w s.g.pc.toNat, pathN m s.w s.g.pc.toNat)] := by simp only [opParts, hk, hh, if_true, if_false]
      have hda : daW (nOf s.g s.w) (aOf s.g s.w) s.g.x = .non := by
        unfold hasO at hh
        unfold daW
        rw [if_neg (fun z => hh (.inl z)), if_neg (fun z => hh (.inr z))]
      rw [hda] at hdo
      have hd1 := hdn .non (fun z => absurd (Or.inr z) hh)
      have hwn : wrB (nOf s.g s.w) s.g.pc s.g.acc = none := by
        unfold hasO at hh
        unfold wrB
        rw [if_neg (fun z => hh (.inl (by omega))), if_neg (fun z => hh (.inl (by omega)))]
      have hres : doneW m (nOf s.g s.w) (aOf s.g s.w) s.g.pc s.g.acc s.g.x s.g.out s.g.cnt (dOf s.g s.w) = .tup [rgW (nx m s).g, .non] ∧ (nx m s).w = s.w := by
        rw [n1, n2]
        unfold doneW stepG stepW mOf
        cases hmo : mkN (nOf s.g s.w) (aOf s.g s.w) s.g.x s.g.cnt s.g.acc (dOf s.g s.w) with
        | some v => exact ⟨rfl, rfl⟩
        | none => simp only [hwn, wOf]; exact ⟨trivial, trivial⟩
      obtain ⟨hdw, hww⟩ := hres
      rw [hdw] at hd1
      rw [hop] at hio
      rw [openW, hop]
      simp only [List.map_cons, List.map_nil, prt] at hio ⊢
      rw [hww] at hst2
      rw [hww]
      have hne := ne_nil1 (gt s.w s.g.pc.toNat) (pathN m s.w s.g.pc.toNat) st
      generalize (nx m s).g = G at *
      generalize (pathN m s.w s.g.pc.toNat).map W.int = V1 at *
      first | refine def_rt rfl ?_ | refine defX_rt rfl ?_
      show b_step_of [some (.ref j), some (.int (digN m s.g s.w)), some (.tup [rgW s.g, .int (gt (lv m s.w 8) 0), .tup [.tup [.int (gt s.w s.g.pc.toNat), .tup V1]]]), none, none, none, none, none, none, none, none, none] st = _
      unfold b_step_of
      refine seq_nx (by simp [hio, hmust]; exact ⟨rfl, rfl⟩) ?_
      refine seq_nx (by simp; exact ⟨rfl, rfl⟩) ?_
      refine seq_nx (by simp [-mEq, ho, hst, sizeLine_eq, mEq_ii, hmust]; exact ⟨rfl, rfl⟩) ?_
      refine seq_nx (by simp [-mNe, mNe_ii, hk]; exact ⟨rfl, rfl⟩) ?_
      refine seq_nx (by
        have q : mNe (.tup [.tup [.int (gt s.w s.g.pc.toNat), .tup V1]]) (.tup []) st = .ok (.bl true) st := hne
        simp [-mNe, q, hmust, sizeLine_eq]; exact ⟨rfl, rfl⟩) ?_
      refine seq_nx (by simp; exact ⟨rfl, rfl⟩) ?_
      refine seq_nx (by simp [hdo]; exact ⟨rfl, rfl⟩) ?_
      refine seq_nx (by simp [-mEq, mEq_ii, hmust]; exact ⟨rfl, rfl⟩) ?_
      refine seq_nx (by simp [-mEq, mEq_ii, hrw1, hmust]; exact ⟨rfl, rfl⟩) ?_
      refine seq_nx (by simp; exact ⟨rfl, rfl⟩) ?_
      refine seq_nx (by simp; exact ⟨rfl, rfl⟩) ?_
      refine seq_nx (by simp [hd1]; exact ⟨rfl, rfl⟩) ?_
      refine seq_nx (by simp; exact ⟨rfl, rfl⟩) ?_
      simp [ho, hst2, sizeLine_eq]
  · have hop : opParts m s = [] := by simp only [opParts, hk, if_false]
    have n1 : nx m s = s := by unfold nx nxG nxT nxW; simp only [hk, if_false]
    rw [hop] at hio
    rw [openW, hop]
    rw [n1]
    simp only [List.map_nil] at hio ⊢
    first | refine def_rt rfl ?_ | refine defX_rt rfl ?_
    show b_step_of [some (.ref j), some (.int (digN m s.g s.w)), some (.tup [rgW s.g, .int (gt (lv m s.w 8) 0), .tup []]), none, none, none, none, none, none, none, none, none] st = _
    unfold b_step_of
    refine seq_nx (by simp [hio, hmust]; exact ⟨rfl, rfl⟩) ?_
    refine seq_nx (by simp; exact ⟨rfl, rfl⟩) ?_
    refine seq_nx (by simp [-mEq, ho, hst, sizeLine_eq, mEq_ii, hmust]; exact ⟨rfl, rfl⟩) ?_
    refine seq_rt ?_
    have q : mEq (.tup []) (.tup []) st = .ok (.bl true) st := by simp
    simp [-mNe, -mEq, mNe_ii, hk, q, hmust, sizeLine_eq]
end
end Gn

namespace Gn
open PySem L2 Mi
theorem turnS_lt (m : Int) (p : Nat) (F : Ms → Ms) (s0 : Ms) : ∀ i, i < p → turnS m p F s0 i = runM m i s0
  | 0, _ => rfl
  | i + 1, h => by rw [turnS, if_neg (by omega), turnS_lt m p F s0 i (by omega)]; rfl
theorem t_tuple48 (D : List Int) (hD : 0 < D.length) (n : Nat) (hn : n ≤ 16) {a : MA} {s : Slo} {st : Sto} (ha : a s st = .ok [.int (n : Int)] st) (hs1 : s.length = 24) (hsD : s[1]? = some (some (.lst (D.map W.int)))) :
    ∃ ts : List Int, ts.length = n ∧ (∀ x ∈ ts, Word x) ∧ mLc (mIRng1 a) (.nm 8) mYes e0_law [8] s st = .ok (.lst (ts.map W.int)) st := by
  obtain ⟨f, hf⟩ : ∃ f : W → W, f = fun w => match w with | .int i => .int (D.getD (i.toNat % D.length) 0 % 65536) | w => w := ⟨_, rfl⟩
  refine ⟨(List.range n).map fun i => D.getD (i % D.length) 0 % 65536, by simp, fun x hx => ?_, ?_⟩
  · simp only [List.mem_map] at hx
    obtain ⟨i, -, rfl⟩ := hx
    constructor <;> omega
  · have z := mLc_of (it := mIRng1 a) (n := .nm 8) (t := mYes) (e := e0_law) (vs := [8]) (s := s) (st := st) (st1 := st) (ws := rngW 0 n) (rng1_nat ha (by omega)) (by simp; omega) (fun _ => true) f (fun w hw => by
      obtain ⟨i, hi, rfl⟩ := mem_rng0 hw
      refine ⟨_, rfl, rfl, fun _ => ?_⟩
      have hmod : i % D.length < D.length := Nat.mod_lt _ hD
      have hat : atI (D.map W.int) ((i : Int) % (D.length : Int)) = some (.int (D.getD (i % D.length) 0)) := by
        rw [show ((i : Int) % (D.length : Int)) = ((i % D.length : Nat) : Int) from (Int.natCast_emod _ _).symm, Mi.atI_nat, List.getElem?_map, List.getElem?_eq_getElem hmod]
        simp [List.getD, List.getElem?_eq_getElem hmod]
      have hd0 : (0 : Int) < (D.length : Int) := by omega
      have g8 : ((wipeW s [8]).set 8 (some (.int (i : Int))))[8]? = some (some (.int (i : Int))) := by
        rw [List.getElem?_set_self]; simp [wipeW, hs1]
      have g1 : ((wipeW s [8]).set 8 (some (.int (i : Int))))[1]? = some (some (.lst (D.map W.int))) := by
        rw [List.getElem?_set_ne (by omega)]
        simp [wipeW, List.getElem?_set_ne, hsD]
      rw [hf]
      simp [e0_law, g8, g1, hD, hat])
    rw [z, hf]
    congr 2
    simp [rngW, List.filter_eq_self.mpr]
theorem law_true : ∀ ns : List Int, ns.length ≤ 63 → (∀ z ∈ ns, Builtin.Int.intBits z ≤ 1048576) → ∃ st, m_law [.xst (ns.map W.int)] [] = .ok (.bl true) st := by
  intro ns hn _
  obtain ⟨ds, st1, e1, o1, l1⟩ := t_draws ns hn [] 50
  obtain ⟨D, hD⟩ : ∃ D, D = ds ++ [5, 99991, 123456789] := ⟨_, rfl⟩
  have hDl : D.length = ds.length + 3 := by rw [hD]; simp
  obtain ⟨d0, hd0⟩ : ∃ d0, D[0]? = some d0 := ⟨D[0]'(by omega), List.getElem?_eq_getElem _⟩
  obtain ⟨d1, hd1⟩ : ∃ d1, D[1]? = some d1 := ⟨D[1]'(by omega), List.getElem?_eq_getElem _⟩
  obtain ⟨d2, hd2⟩ : ∃ d2, D[2]? = some d2 := ⟨D[2]'(by omega), List.getElem?_eq_getElem _⟩
  obtain ⟨m, hmb, h7, h1⟩ : ∃ m : Int, (2 : Int) ^ 61 - 1 = m ∧ 7 < m ∧ m < 4611686018427387904 := ⟨_, rfl, by decide, by decide⟩
  have emk := t_make st1 61 (by omega)
  rw [hmb] at emk
  obtain ⟨j, hj⟩ : ∃ j, j = st1.length := ⟨_, rfl⟩
  obtain ⟨st2, hst2⟩ : ∃ st2, st2 = st1 ++ [Ob.ins 0 [("_bits", .int ((61 : Nat) : Int)), ("_modulus", .int m), ("_book", .non)]] := ⟨_, rfl⟩
  rw [← hst2, ← hj] at emk
  have hat2 : st2[j]? = some (.ins 0 [("_bits", .int ((61 : Nat) : Int)), ("_modulus", .int m), ("_book", .non)]) := by rw [hst2, hj]; simp
  have dg2 : DigAt m st2 j := ⟨_, hat2, 61, rfl⟩
  obtain ⟨c, hc, hc1⟩ : ∃ c : Nat, 1 + d0 % 60 = (c : Int) ∧ c ≤ 256 := ⟨(1 + d0 % 60).toNat, by omega, by omega⟩
  obtain ⟨words, st3, e3, o3, w1, w2⟩ := t_lwords D (by omega) (by omega) c hc1 st2
  have dg3 := dg2.only o3 (by simp)
  obtain ⟨k, hk, hk8⟩ : ∃ k : Nat, d0 / 60 % 8 = (k : Int) ∧ k ≤ 7 := ⟨(d0 / 60 % 8).toNat, by omega, by omega⟩
  have h256 := pow8 (show k ≤ 8 by omega)
  have hpk := Nat.two_pow_pos k
  obtain ⟨p, hp, hp1, hp2⟩ : ∃ p : Nat, 1 + d1 % ((2 ^ k : Nat) : Int) = (p : Int) ∧ 1 ≤ p ∧ p ≤ 2 ^ k := by
    generalize 2 ^ k = C at *
    have z1 : 0 ≤ d1 % (C : Int) := Int.emod_nonneg _ (by omega)
    have z2 : d1 % (C : Int) < C := Int.emod_lt_of_pos _ (by omega)
    exact ⟨(1 + d1 % (C : Int)).toNat, by omega, by omega, by omega⟩
  have hd0W : (D.map W.int)[0]? = some (.int d0) := by rw [List.getElem?_map, hd0]; rfl
  have hd1W : (D.map W.int)[1]? = some (.int d1) := by rw [List.getElem?_map, hd1]; rfl
  have hd2W : (D.map W.int)[2]? = some (.int d2) := by rw [List.getElem?_map, hd2]; rfl
  have lg128 : (128 : Nat).log2 < 9000 := by decide
  have lg60 : (60 : Nat).log2 < 9000 := by decide
  obtain ⟨pl, hpl, hpl1⟩ : ∃ pl : Nat, d1 / 128 % 256 = (pl : Int) ∧ pl < 256 := ⟨(d1 / 128 % 256).toNat, by omega, by omega⟩
  -- the turn
  obtain ⟨tw, F, hTF, htw⟩ : ∃ (tw : W) (F : Ms → Ms), TurnT m p tw F ∧ ∀ (rest : MS) (o : SO), rest [some (.xst (ns.map W.int)), some (.lst (D.map W.int)), some (.ref j), some (.tup (words.map W.int)), some (.int (k : Int)), some (.int ((2 ^ k : Nat) : Int)), some (.int (p : Int)), some tw, none, none, none, none, none, none, none, none, none, none, none, none, none, none, none, none] st3 = o →
      mSeq (mAsg (mTup (mCons (mC (W.str "word")) (mCons (mVar 6) (mCons (mOp mMod (mOp mFdiv (mOp mIx (mVar 1) (mC (W.int 1))) (mC (W.int 128))) (mC (W.int 256))) (mCons (mOp mMod (mOp mIx (mVar 1) (mC (W.int 2))) (mC (W.int 65536))) mNil))))) (mGN 7))
        (mSeq (mIfS (mTest (mOp mEq (mOp mMod (mOp mIx (mVar 1) (mC (W.int 0))) (mC (W.int 2))) (mC (W.int 1)))) (mAsg (mTup (mCons (mC (W.str "told")) (mCons (mVar 6) (mCons (mCB mTupleOf (mCons (mLc (mIRng1 (mCons (mOp mMod (mOp mIx (mVar 1) (mC (W.int 2))) (mC (W.int 17))) mNil)) (.nm 8) mYes e0_law [8]) mNil)) mNil)))) (mGN 7)) mSkip) rest) [some (.xst (ns.map W.int)), some (.lst (D.map W.int)), some (.ref j), some (.tup (words.map W.int)), some (.int (k : Int)), some (.int ((2 ^ k : Nat) : Int)), some (.int (p : Int)), none, none, none, none, none, none, none, none, none, none, none, none, none, none, none, none, none] st3 = o := by
    have hA : (mAsg (mTup (mCons (mC (W.str "word")) (mCons (mVar 6) (mCons (mOp mMod (mOp mFdiv (mOp mIx (mVar 1) (mC (W.int 1))) (mC (W.int 128))) (mC (W.int 256))) (mCons (mOp mMod (mOp mIx (mVar 1) (mC (W.int 2))) (mC (W.int 65536))) mNil))))) (mGN 7)) [some (.xst (ns.map W.int)), some (.lst (D.map W.int)), some (.ref j), some (.tup (words.map W.int)), some (.int (k : Int)), some (.int ((2 ^ k : Nat) : Int)), some (.int (p : Int)), none, none, none, none, none, none, none, none, none, none, none, none, none, none, none, none, none] st3 = .nx [some (.xst (ns.map W.int)), some (.lst (D.map W.int)), some (.ref j), some (.tup (words.map W.int)), some (.int (k : Int)), some (.int ((2 ^ k : Nat) : Int)), some (.int (p : Int)), some (.tup [.str "word", .int (p : Int), .int (pl : Int), .int (d2 % 65536)]), none, none, none, none, none, none, none, none, none, none, none, none, none, none, none, none] st3 := by
      simp [hd1W, hd2W, lg128, hpl, sizeLine_eq]
    by_cases hodd : d0 % 2 = 1
    · obtain ⟨n, hn2, hn3⟩ : ∃ n : Nat, d2 % 17 = (n : Int) ∧ n ≤ 16 := ⟨(d2 % 17).toNat, by omega, by omega⟩
      obtain ⟨ts, hts, htsw, etu⟩ := t_tuple48 D (by omega) n hn3 (a := mCons (mOp mMod (mOp mIx (mVar 1) (mC (W.int 2))) (mC (W.int 17))) mNil) (s := [some (.xst (ns.map W.int)), some (.lst (D.map W.int)), some (.ref j), some (.tup (words.map W.int)), some (.int (k : Int)), some (.int ((2 ^ k : Nat) : Int)), some (.int (p : Int)), some (.tup [.str "word", .int (p : Int), .int (pl : Int), .int (d2 % 65536)]), none, none, none, none, none, none, none, none, none, none, none, none, none, none, none, none]) (st := st3) (by simp [hd2W, hn2]) rfl rfl
      refine ⟨_, fun s => ⟨⟨s.g.pc, s.g.acc, s.g.x, 1, outN m ts, ts.length⟩, ts, s.w⟩, ⟨.inr ⟨ts, by omega, rfl, fun _ => rfl⟩⟩, fun rest o ho => ?_⟩
      refine seq_nx hA (seq_nx (ifS_true (st1 := st3) (by simp [hd0W, hodd]) ?_) ho)
      generalize 2 ^ k = C at *
      simp [-mLc, etu, sizeLine_eq]
    · refine ⟨_, fun s => ⟨s.g, s.t, s.w.set pl (d2 % 65536)⟩, ⟨.inl ⟨pl, d2 % 65536, hpl1, by constructor <;> omega, rfl, fun _ => rfl⟩⟩, fun rest o ho => ?_⟩
      refine seq_nx hA (seq_nx (ifS_false (st1 := st3) (by simp [hd0W, hodd]) rfl) ho)
  obtain ⟨s0, hs0⟩ : ∃ s0 : Ms, s0 = ⟨⟨0, 0, 0, 0, 7, 0⟩, [], words⟩ := ⟨_, rfl⟩
  obtain ⟨S, hSd⟩ : ∃ S : Nat → Ms, S = turnS m p F s0 := ⟨_, rfl⟩
  have hS0 : S 0 = ⟨⟨0, 0, 0, 0, 7, 0⟩, [], words⟩ := by rw [hSd, ← hs0]; rfl
  have g0 : Good m ⟨0, 0, 0, 0, 7, 0⟩ := by refine ⟨?_, ?_, ?_, ?_, ?_, ?_⟩ <;> simp [Word] <;> omega
  have ok0 : Ok m s0 := by rw [hs0]; exact ⟨g0, w2, w1, by simp⟩
  have okS : ∀ i, Ok m (S i) := fun i => by rw [hSd]; exact turnS_ok h7 hTF ok0 i
  have okR : ∀ i, Ok m (runM m i s0) := fun i => ok_run h7 ok0 i
  obtain ⟨H, hH⟩ : ∃ H, H = st3.length := ⟨_, rfl⟩
  have hF := fol_turned h7 (by omega) hTF j H s0 (2 ^ k) (by omega)
  rw [← hSd] at hF
  obtain ⟨a1, a2, a3, a4, st4, e4, hC4, d34, d44, o4, nd4, gt4⟩ := t_hinit (st := st3) (k := k) (tw := tw) (words := words) h7 h1 (by omega) hS0 (fun i _ => ⟨(okS i).go, (okS i).wl, (okS i).ww⟩) (fun i _ => by
    have := (okS i).tl
    have := (okS i).go.cnt
    omega) dg3 (by rw [← hH]; exact hF)
  rw [← hH] at e4 hC4 nd4 gt4
  have hL4 : HistL m j H tw S k a1 a2 a3 a4 0 0 st4 := ⟨hC4, ⟨[], d34, (fun _ _ _ h => by cases h), by simp⟩, ⟨[], d44, (fun _ _ h => by cases h), by simp⟩, nd4⟩
  have lt4 := hL4.lt
  obtain ⟨R, O, M, A, st5, e5, p5, o5, ge5⟩ := t_lrun h7 h1 hTF hs0 ok0 (C := 2 ^ k) h256 hC4.dg
  rw [← hSd] at e5 p5
  have hL5 := hL4.keep o5 (by simp)
  have i5 : I48 m j H k a1 a2 a3 a4 R O 0 0 tw S st5 := ⟨hL5, p5.row, p5.ops⟩
  obtain ⟨s5, m5, gs5, ws5⟩ := p5.mh
  have n34 : a3 ∉ A ∧ a4 ∉ A := by
    have h3 := lt4 a3 (by simp)
    have h4 := lt4 a4 (by simp)
    exact ⟨fun z => by have := ge5 a3 (by simp [z]); omega, fun z => by have := ge5 a4 (by simp [z]); omega⟩
  have jn := hL5.jn
  simp at jn
  obtain ⟨TT, hTT⟩ : ∃ TT, TT = (S (2 ^ k)).t.map W.int := ⟨_, rfl⟩
  rw [← hTT] at e5
  -- the drawn steps
  obtain ⟨E, hE⟩ : ∃ E : List Int, E = D.take 8 ++ [(p : Int) - 1, (p : Int), if ((2 ^ k : Nat) : Int) < (p : Int) + 1 then ((2 ^ k : Nat) : Int) else (p : Int) + 1, ((2 ^ k : Nat) : Int)] := ⟨_, rfl⟩
  have hEl : E.length ≤ 12 := by rw [hE]; simp; omega
  obtain ⟨s9, st9, hlp9, u14, u15, rfl, i9, M9⟩ := loop_st (ws := E.map W.int) (g := mGN 14) (n := E.length) (s := [some (.xst (ns.map W.int)), some (.lst (D.map W.int)), some (.ref j), some (.tup (words.map W.int)), some (.int (k : Int)), some (.int ((2 ^ k : Nat) : Int)), some (.int (p : Int)), some tw, none, some (.ref H), some (.ref R), some (.ref O), some (.ref M), some (.tup TT), none, none, none, none, none, none, none, none, none, none]) (st := st5) (body := l1_law) (by simp)
    (fun i s st => ∃ (u14 u15 : Option W), s = [some (.xst (ns.map W.int)), some (.lst (D.map W.int)), some (.ref j), some (.tup (words.map W.int)), some (.int (k : Int)), some (.int ((2 ^ k : Nat) : Int)), some (.int (p : Int)), some tw, none, some (.ref H), some (.ref R), some (.ref O), some (.ref M), some (.tup TT), u14, u15, none, none, none, none, none, none, none, none] ∧ I48 m j H k a1 a2 a3 a4 R O 0 i tw S st ∧ Mh m j M s5 A st)
    ⟨none, none, rfl, i5, m5⟩ (by
      rintro i w s t hw ⟨u14, u15, rfl, hI, hMh⟩
      have hi : i < E.length := by
        have := (List.getElem?_eq_some_iff.mp hw).1
        rwa [List.length_map] at this
      obtain ⟨d, rfl⟩ : ∃ d : Int, w = .int d := by
        rw [List.getElem?_map, Option.map_eq_some_iff] at hw
        obtain ⟨d, -, rfl⟩ := hw
        exact ⟨d, rfl⟩
      refine ⟨_, _, rfl, ?_⟩
      obtain ⟨y2, t2, e2, hI2, o2⟩ := t_check1 h7 h1 hI hF (by omega) (by omega) d (some (.xst (ns.map W.int))) (some (.lst (D.map W.int))) (some (.tup (words.map W.int))) (some (.int (k : Int))) (some (.int (p : Int))) (some tw) none (some (.ref M)) (some (.tup TT)) u15 none none none none none none none none
      simp only [mGN, List.set]
      rw [e2]
      exact ⟨_, y2, rfl, hI2, hMh.only o2 (fun a ha z => n34.2 (by simp only [List.mem_singleton] at z; rwa [z] at ha)) (by simp; omega)⟩)
  -- the levels
  obtain ⟨s10, st10, hlp10, u16, u17, u18, u19, u20, u21, rfl, ⟨q10, i10⟩, M10⟩ := loop_st (ws := rngW 0 (k + 1)) (g := mGN 16) (n := k + 1) (s := [some (.xst (ns.map W.int)), some (.lst (D.map W.int)), some (.ref j), some (.tup (words.map W.int)), some (.int (k : Int)), some (.int ((2 ^ k : Nat) : Int)), some (.int (p : Int)), some tw, none, some (.ref H), some (.ref R), some (.ref O), some (.ref M), some (.tup TT), u14, u15, none, none, none, none, none, none, none, none]) (st := st9) (body := l3_law) (rngW_len 0 _)
    (fun l s st => ∃ (u16 u17 u18 u19 u20 u21 : Option W), s = [some (.xst (ns.map W.int)), some (.lst (D.map W.int)), some (.ref j), some (.tup (words.map W.int)), some (.int (k : Int)), some (.int ((2 ^ k : Nat) : Int)), some (.int (p : Int)), some tw, none, some (.ref H), some (.ref R), some (.ref O), some (.ref M), some (.tup TT), u14, u15, u16, u17, u18, u19, u20, u21, none, none] ∧ (l ≤ k + 1 ∧ I48 m j H k a1 a2 a3 a4 R O (2 * l) E.length tw S st) ∧ Mh m j M s5 A st)
    ⟨none, none, none, none, none, none, rfl, ⟨by omega, i9⟩, M9⟩ (by
      rintro l w s t hw ⟨u16, u17, u18, u19, u20, u21, rfl, ⟨-, hI⟩, hMh⟩
      obtain ⟨hl, rfl⟩ := rng0_get hw
      refine ⟨_, _, rfl, ?_⟩
      simp only [mGN, List.set]
      have hpl0 := Nat.two_pow_pos l
      have hl256 := pow8 (show l ≤ 8 by omega)
      have ekl : 2 ^ k = 2 ^ (k - l) * 2 ^ l := by rw [← Nat.pow_add]; congr 1; omega
      have hQ : ((2 ^ k : Nat) : Int) / ((2 ^ l : Nat) : Int) = ((2 ^ (k - l) : Nat) : Int) := by
        rw [ekl, Int.natCast_mul]
        exact Int.mul_ediv_cancel _ (by omega)
      have hq0 := Nat.two_pow_pos (k - l)
      obtain ⟨dl, hdl⟩ : ∃ dl, D[l % D.length]? = some dl := ⟨D[l % D.length]'(Nat.mod_lt _ (by omega)), List.getElem?_eq_getElem _⟩
      have hat : atI (D.map W.int) ((l : Int) % (D.length : Int)) = some (.int dl) := by
        rw [show ((l : Int) % (D.length : Int)) = ((l % D.length : Nat) : Int) from (Int.natCast_emod _ _).symm, Mi.atI_nat, List.getElem?_map, hdl]; rfl
      obtain ⟨x, hx, hx1⟩ : ∃ x : Nat, dl % ((2 ^ (k - l) : Nat) : Int) = (x : Int) ∧ x < 2 ^ (k - l) := by
        generalize 2 ^ (k - l) = Q at *
        have z1 : 0 ≤ dl % (Q : Int) := Int.emod_nonneg _ (by omega)
        have z2 : dl % (Q : Int) < Q := Int.emod_lt_of_pos _ (by omega)
        exact ⟨(dl % (Q : Int)).toNat, by omega, by omega⟩
      obtain ⟨y, hy, hy1⟩ : ∃ y : Nat, ((p : Int) - 1) / ((2 ^ l : Nat) : Int) = (y : Int) ∧ y < 2 ^ (k - l) := by
        refine ⟨(p - 1) / 2 ^ l, ?_, by rw [Nat.div_lt_iff_lt_mul hpl0, ← ekl]; omega⟩
        rw [Int.natCast_ediv]
        congr 1; omega
      have lgn : (2 ^ l).log2 < 9000 := log2_lt (by omega)
      obtain ⟨s11, t11, hlp11, v18, v19, v20, v21, rfl, i11, M11⟩ := loop_st (ws := [W.int (x : Int), W.int (y : Int)]) (g := mGN 18) (n := 2) (s := [some (.xst (ns.map W.int)), some (.lst (D.map W.int)), some (.ref j), some (.tup (words.map W.int)), some (.int (k : Int)), some (.int ((2 ^ k : Nat) : Int)), some (.int (p : Int)), some tw, none, some (.ref H), some (.ref R), some (.ref O), some (.ref M), some (.tup TT), u14, u15, some (.int (l : Int)), some (.int ((2 ^ l : Nat) : Int)), u18, u19, u20, u21, none, none]) (st := t) (body := l2_law) rfl
        (fun i s st => ∃ (u18 u19 u20 u21 : Option W), s = [some (.xst (ns.map W.int)), some (.lst (D.map W.int)), some (.ref j), some (.tup (words.map W.int)), some (.int (k : Int)), some (.int ((2 ^ k : Nat) : Int)), some (.int (p : Int)), some tw, none, some (.ref H), some (.ref R), some (.ref O), some (.ref M), some (.tup TT), u14, u15, some (.int (l : Int)), some (.int ((2 ^ l : Nat) : Int)), u18, u19, u20, u21, none, none] ∧ I48 m j H k a1 a2 a3 a4 R O (2 * l + i) E.length tw S st ∧ Mh m j M s5 A st)
        ⟨u18, u19, u20, u21, rfl, hI, hMh⟩ (by
          rintro i w s t hw ⟨u18, u19, u20, u21, rfl, hI, hMh⟩
          have hi : i < 2 := (List.getElem?_eq_some_iff.mp hw).1
          obtain ⟨z, hz1, rfl⟩ : ∃ z : Nat, z < 2 ^ (k - l) ∧ w = .int (z : Int) := by
            have hm := List.mem_of_getElem? hw
            simp only [List.mem_cons, List.not_mem_nil, or_false] at hm
            rcases hm with rfl | rfl
            · exact ⟨x, hx1, rfl⟩
            · exact ⟨y, hy1, rfl⟩
          refine ⟨_, _, rfl, ?_⟩
          obtain ⟨y19, y20, y21, t2, e2, hI2, o2⟩ := t_check2 h7 h1 hI hF (by omega) (by omega) l (by omega) z hz1 (some (.xst (ns.map W.int))) (some (.lst (D.map W.int))) (some (.tup (words.map W.int))) (some (.int (k : Int))) (some (.int (p : Int))) (some tw) none (some (.ref M)) (some (.tup TT)) u14 u15 u19 u20 u21 none none
          simp only [mGN, List.set]
          rw [e2]
          exact ⟨_, _, _, _, rfl, hI2, hMh.only o2 (fun a ha z => n34.1 (by simp only [List.mem_singleton] at z; rwa [z] at ha)) (by simp; omega)⟩)
      have hrun : l3_law [some (.xst (ns.map W.int)), some (.lst (D.map W.int)), some (.ref j), some (.tup (words.map W.int)), some (.int (k : Int)), some (.int ((2 ^ k : Nat) : Int)), some (.int (p : Int)), some tw, none, some (.ref H), some (.ref R), some (.ref O), some (.ref M), some (.tup TT), u14, u15, some (.int (l : Int)), u17, u18, u19, u20, u21, none, none] t = .nx [some (.xst (ns.map W.int)), some (.lst (D.map W.int)), some (.ref j), some (.tup (words.map W.int)), some (.int (k : Int)), some (.int ((2 ^ k : Nat) : Int)), some (.int (p : Int)), some tw, none, some (.ref H), some (.ref R), some (.ref O), some (.ref M), some (.tup TT), u14, u15, some (.int (l : Int)), some (.int ((2 ^ l : Nat) : Int)), v18, v19, v20, v21, none, none] t11 := by
        have hDp : 0 < D.length := by omega
        unfold l3_law
        refine seq_nx (s1 := [some (.xst (ns.map W.int)), some (.lst (D.map W.int)), some (.ref j), some (.tup (words.map W.int)), some (.int (k : Int)), some (.int ((2 ^ k : Nat) : Int)), some (.int (p : Int)), some tw, none, some (.ref H), some (.ref R), some (.ref O), some (.ref M), some (.tup TT), u14, u15, some (.int (l : Int)), some (.int ((2 ^ l : Nat) : Int)), u18, u19, u20, u21, none, none]) (st1 := t) (by simp [show (l : Int) ≤ 1000000 by omega]) ?_
        refine mFor_vals (ws := [W.int (x : Int), W.int (y : Int)]) ?_ rfl hlp11
        generalize 2 ^ l = P at *
        generalize 2 ^ (k - l) = Q at *
        generalize 2 ^ k = C at *
        simp [hat, hDp, hpl0, lgn, hQ, hq0, hx, hy, sizeLine_eq]
      rw [hrun]
      exact ⟨_, _, _, _, _, _, rfl, ⟨by omega, i11.hl.mono (by omega) (Nat.le_refl _), i11.row, i11.ops⟩, M11⟩)
  -- the end
  obtain ⟨st11, e11, o11, hL11⟩ := i10.hl.fin h7 h1 hF
  have i11 := i10.only0 o11
  have M11 := M10.only o11 (by simp) (by simp)
  have hrd : ((rowD (digS m S) (2 ^ k)).map W.int).drop 1 = (dRow (digS m S) 0 (2 ^ k)).map W.int := by
    have := rowD_cut (digS m S) (2 ^ k) 0 (2 ^ k) (by omega)
    rw [List.take_of_length_le (by simp [rowD_len])] at this
    rw [← List.map_drop, ← this]
  obtain ⟨st12, e12, o12⟩ := dr_path (S := S) h7 h1 0 k (2 ^ k - 1) (by omega) (by omega) (.lst ((dRow (digS m S) 0 (2 ^ k)).map W.int)) st11 (.inl rfl) hL11.hc.dg
  have M12 := M11.only o12 (by simp) (by simp)
  have i12 := i11.only0 o12
  have t1 := M12.regs
  have t2 := M12.root
  rw [gs5] at t1
  rw [ws5] at t2
  obtain ⟨c12, hob12⟩ := M12.obj
  have pvEnd : Pv 2 (.tup [.int (digS m S (2 ^ k)), .tup ((paN m (dRow (digS m S) 0 (2 ^ k)) k (2 ^ k - 1)).map W.int), rgW (S (2 ^ k)).g, .int (gt (lv m (S (2 ^ k)).w 8) 0), .tup ((S (2 ^ k)).t.map W.int)]) := by
    intro w hw
    simp only [List.mem_cons, List.not_mem_nil, or_false] at hw
    rcases hw with rfl | rfl | rfl | rfl | rfl
    · trivial
    · exact Pv.ints 0 _
    · exact Pv.ints 0 (rgL (S (2 ^ k)).g)
    · trivial
    · exact Pv.ints 0 _
  have qe := mNe_pv (by omega) pvEnd st12
  -- the plain history
  obtain ⟨H2, hH2⟩ : ∃ H2, H2 = st12.length := ⟨_, rfl⟩
  have hFp := fol_plain h7 (by omega) j H2 (fun i => runM m i s0) (fun _ => rfl) (2 ^ k)
  obtain ⟨b1, b2, b3, b4, st13, e13, hC13, d313, d413, o13, nd13, gt13⟩ := t_hinit (S := fun i => runM m i s0) (k := k) (tw := .non) (words := words) (st := st12) h7 h1 (by omega) (by rw [← hs0]; rfl) (fun i _ => ⟨(okR i).go, (okR i).wl, (okR i).ww⟩) (fun i _ => by
    have := (okR i).tl
    have := (okR i).go.cnt
    omega) i12.hl.hc.dg (by rw [← hH2]; exact hFp)
  rw [← hH2] at e13 hC13 nd13 gt13
  have hL13 : HistL m j H2 .non (fun i => runM m i s0) k b1 b2 b3 b4 0 0 st13 := ⟨hC13, ⟨[], d313, (fun _ _ _ h => by cases h), by simp⟩, ⟨[], d413, (fun _ _ h => by cases h), by simp⟩, nd13⟩
  have i13 := i12.only0 o13
  have eso := t_stepof h7 h1 (okS (p - 1)) hC13.dg
  have hnp : nx m (S (p - 1)) = runM m p s0 := by
    rw [hSd, turnS_lt m p F s0 (p - 1) (by omega), show p = p - 1 + 1 by omega]; rfl
  rw [hnp] at eso
  obtain ⟨st14, e14, o14, hL14⟩ := hL13.digest h7 h1 hFp p hp2
  have i14 := i13.only0 o14
  obtain ⟨st15, e15, o15, hL15⟩ := i14.hl.digest h7 h1 hF p hp2
  have ob11 := i10.hl.hc.ob
  have row11 := i11.row
  have row13 := i13.row
  have ops13 := i13.ops
  have obP := hC13.ob
  have obH := i14.hl.hc.ob
  have obH4 := hC4.ob
  have hdp : digS m (fun i => runM m i s0) p = digN m (runM m p s0).g (runM m p s0).w := rfl
  rw [hdp] at e14
  have hdq : digN m (S (p - 1)).g (S (p - 1)).w = digS m S (p - 1) := rfl
  rw [hdq] at eso
  have hrow1 := rowD_at (digS m S) (2 ^ k) (p - 1) (by omega)
  have hrow2 := rowD_at (digS m S) (2 ^ k) p hp2
  have hrowL := rowD_last (digS m S) (2 ^ k)
  have hops1 : atI ((List.range (2 ^ k)).map fun i => openW m (S i)) ((p - 1 : Nat) : Int) = some (openW m (S (p - 1))) := by
    rw [Mi.atI_nat]; simp [show p - 1 < 2 ^ k by omega]
  have hpp : ((p - 1 : Nat) : Int) = (p : Int) - 1 := by omega
  rw [hpp] at hrow1 hops1
  have hpm : ((2 ^ k - 1 : Nat) : Int) = ((2 ^ k : Nat) : Int) - 1 := by omega
  rw [hpm] at e12
  have hcR : cutW ((rowD (digS m S) (2 ^ k)).map W.int) (some 1) none = (dRow (digS m S) 0 (2 ^ k)).map W.int := by
    have := cutB ((rowD (digS m S) (2 ^ k)).map W.int) 1
    rw [hrd] at this
    exact this
  have c8 : cutW (D.map W.int) none (some 8) = (D.map W.int).take 8 := cutA (D.map W.int) 8
  have hEm : E.map W.int = (D.map W.int).take 8 ++ [W.int ((p : Int) - 1), W.int (p : Int), W.int (if ((2 ^ k : Nat) : Int) < (p : Int) + 1 then ((2 ^ k : Nat) : Int) else (p : Int) + 1), W.int ((2 ^ k : Nat) : Int)] := by rw [hE, List.map_append, List.map_take]; rfl
  have e1' : m_L_draws [.xst (ns.map W.int), .int 0, .int 50] [] = .ok (.lst (ds.map W.int)) st1 := e1
  have hDapp : ds.map W.int ++ [W.int 5, .int 99991, .int 123456789] = D.map W.int := by rw [hD]; simp
  have hz : ds.length + 3 ≤ 16777216 := by omega
  have hk6 : (k : Int) ≤ 1000000 := by omega
  have lj : st1.length = j := hj.symm
  have lH : st3.length = H := hH.symm
  have lH2 : st12.length = H2 := hH2.symm
  have emk' : m_Digests_init [.ref j, .int 61, .non] (st1 ++ [.ins 0 []]) = .ok .non st2 := emk
  rw [← hTT] at e11 qe
  have hsh : ((2 ^ k : Nat) : Int) = (2 : Int) ^ k := by simp
  obtain ⟨qq, hqq⟩ : ∃ qq : Bool, qq = decide (digN m (runM m p s0).g (runM m p s0).w = digS m S p) := ⟨_, rfl⟩
  have qs := mEq_ii (digN m (runM m p s0).g (runM m p s0).w) (digS m S p)
  rw [← hqq] at qs
  refine ⟨st15, defX_rt rfl ?_⟩
  show b_law [some (.xst (ns.map W.int)), none, none, none, none, none, none, none, none, none, none, none, none, none, none, none, none, none, none, none, none, none, none, none] [] = _
  unfold b_law
  refine seq_nx (s1 := [some (.xst (ns.map W.int)), some (.lst (D.map W.int)), none, none, none, none, none, none, none, none, none, none, none, none, none, none, none, none, none, none, none, none, none, none]) (st1 := st1) (by simp [e1', hDapp, hz, sizeLine_eq]) ?_
  refine seq_nx (s1 := [some (.xst (ns.map W.int)), some (.lst (D.map W.int)), some (.ref j), none, none, none, none, none, none, none, none, none, none, none, none, none, none, none, none, none, none, none, none, none]) (st1 := st2) (by simp [lj, emk', hat2, sizeLine_eq]) ?_
  refine seq_nx (s1 := [some (.xst (ns.map W.int)), some (.lst (D.map W.int)), some (.ref j), some (.tup (words.map W.int)), none, none, none, none, none, none, none, none, none, none, none, none, none, none, none, none, none, none, none, none]) (st1 := st3) (by simp [hd0W, hc, e3]) ?_
  refine seq_nx (s1 := [some (.xst (ns.map W.int)), some (.lst (D.map W.int)), some (.ref j), some (.tup (words.map W.int)), some (.int (k : Int)), none, none, none, none, none, none, none, none, none, none, none, none, none, none, none, none, none, none, none]) (st1 := st3) (by simp [hd0W, lg60, hk]) ?_
  refine seq_nx (s1 := [some (.xst (ns.map W.int)), some (.lst (D.map W.int)), some (.ref j), some (.tup (words.map W.int)), some (.int (k : Int)), some (.int ((2 ^ k : Nat) : Int)), none, none, none, none, none, none, none, none, none, none, none, none, none, none, none, none, none, none]) (st1 := st3) (by simp [hk6]) ?_
  refine seq_nx (s1 := [some (.xst (ns.map W.int)), some (.lst (D.map W.int)), some (.ref j), some (.tup (words.map W.int)), some (.int (k : Int)), some (.int ((2 ^ k : Nat) : Int)), some (.int (p : Int)), none, none, none, none, none, none, none, none, none, none, none, none, none, none, none, none, none]) (st1 := st3) (by
    generalize 2 ^ k = C at *
    simp [hd1W, hpk, hp]) ?_
  refine htw _ _ ?_
  refine seq_nx (s1 := [some (.xst (ns.map W.int)), some (.lst (D.map W.int)), some (.ref j), some (.tup (words.map W.int)), some (.int (k : Int)), some (.int ((2 ^ k : Nat) : Int)), some (.int (p : Int)), some tw, none, some (.ref H), none, none, none, none, none, none, none, none, none, none, none, none, none, none]) (st1 := st4) (by simp [lH, e4, obH4]) ?_
  generalize (rowD (digS m S) (2 ^ k)).map W.int = RW at *
  generalize ((List.range (2 ^ k)).map fun i => openW m (S i)) = OW at *
  generalize openW m (S (p - 1)) = ow at *
  generalize digS m S (2 ^ k) = DE at *
  generalize digS m S (p - 1) = DP at *
  generalize digS m S p = DQ at *
  generalize digN m (runM m p s0).g (runM m p s0).w = DN at *
  generalize (paN m (dRow (digS m S) 0 (2 ^ k)) k (2 ^ k - 1)).map W.int = PA at *
  generalize (dRow (digS m S) 0 (2 ^ k)).map W.int = RWW at *
  generalize rgW (S (2 ^ k)).g = RG at *
  generalize gt (lv m (S (2 ^ k)).w 8) 0 = RT at *
  refine seq_nx (s1 := [some (.xst (ns.map W.int)), some (.lst (D.map W.int)), some (.ref j), some (.tup (words.map W.int)), some (.int (k : Int)), some (.int ((2 ^ k : Nat) : Int)), some (.int (p : Int)), some tw, none, some (.ref H), some (.ref R), some (.ref O), some (.ref M), some (.tup TT), none, none, none, none, none, none, none, none, none, none]) (st1 := st5) (by
    generalize 2 ^ k = C at *
    simp [e5, sizeLine_eq]) ?_
  refine seq_nx (mFor_vals (ws := E.map W.int) (st1 := st5) (by
    rw [hEm]
    generalize 2 ^ k = C at *
    by_cases hmn : (C : Int) < (p : Int) + 1
    · rw [if_pos hmn]
      simp [c8, sizeLine_eq, show min 8 D.length ≤ 16777212 by omega, show min ((p : Int) + 1) (C : Int) = C by omega]
    · rw [if_neg hmn]
      simp [c8, sizeLine_eq, show min 8 D.length ≤ 16777212 by omega, show min ((p : Int) + 1) (C : Int) = (p : Int) + 1 by omega]) (by simp) hlp9) ?_
  refine seq_nx (mFor_vals (rng1_nat (k := k + 1) (st1 := st9) (by simp) (by omega)) (rngW_len 0 _) hlp10) ?_
  refine seq_nx (s1 := [some (.xst (ns.map W.int)), some (.lst (D.map W.int)), some (.ref j), some (.tup (words.map W.int)), some (.int (k : Int)), some (.int ((2 ^ k : Nat) : Int)), some (.int (p : Int)), some tw, none, some (.ref H), some (.ref R), some (.ref O), some (.ref M), some (.tup TT), u14, u15, u16, u17, u18, u19, u20, u21, none, none]) (st1 := st12) (by
    generalize 2 ^ k = C at *
    simp [-mNe, ob11, e11, row11, hrowL, hcR, e12, hob12, t1, t2, qe, sizeLine_eq]) ?_
  refine seq_nx (s1 := [some (.xst (ns.map W.int)), some (.lst (D.map W.int)), some (.ref j), some (.tup (words.map W.int)), some (.int (k : Int)), some (.int ((2 ^ k : Nat) : Int)), some (.int (p : Int)), some tw, none, some (.ref H), some (.ref R), some (.ref O), some (.ref M), some (.tup TT), u14, u15, u16, u17, u18, u19, u20, u21, some (.ref H2), none]) (st1 := st13) (by simp [lH2, e13, obP]) ?_
  refine seq_nx (s1 := [some (.xst (ns.map W.int)), some (.lst (D.map W.int)), some (.ref j), some (.tup (words.map W.int)), some (.int (k : Int)), some (.int ((2 ^ k : Nat) : Int)), some (.int (p : Int)), some tw, none, some (.ref H), some (.ref R), some (.ref O), some (.ref M), some (.tup TT), u14, u15, u16, u17, u18, u19, u20, u21, some (.ref H2), some (.bl qq)]) (st1 := st13) (by simp [-mEq, row13, hrow1, ops13, hops1, eso, hrow2, qs]) ?_
  have q3 : mEq (.bl qq) (.bl qq) st15 = .ok (.bl true) st15 := by cases qq <;> simp
  simp [-mEq, obP, e14, obH, e15, qs, q3]
end Gn

namespace Gn
open PySem L2 Mi
/-! ### what the top has written -/
theorem all_mk {l : PySem.W.OpenLaw} {w : World} {K : PySem.W.Frag} {h : Heap} {mg : Str → Option Value} {fa : Addr} (X : K.In h) (G : h.Ns mainGlobals mg) (hfa : mg "law" = some (.ref fa))
    {f_Machine_told : Addr} {od_Machine_told an_Machine_told : Option Addr} {sl_Machine_told : Array (Option Value)} {oc_Machine_told kV_Machine_told dc_Machine_told pm_Machine_told cd_Machine_told ct_Machine_told : Value}
    {f_Memory_words : Addr} {od_Memory_words an_Memory_words : Option Addr} {sl_Memory_words : Array (Option Value)} {oc_Memory_words kV_Memory_words dc_Memory_words pm_Memory_words cd_Memory_words ct_Memory_words : Value}
    {f_Machine_words : Addr} {od_Machine_words an_Machine_words : Option Addr} {sl_Machine_words : Array (Option Value)} {oc_Machine_words kV_Machine_words dc_Machine_words pm_Machine_words cd_Machine_words ct_Machine_words : Value}
    {f_Memory_word : Addr} {od_Memory_word an_Memory_word : Option Addr} {sl_Memory_word : Array (Option Value)} {oc_Memory_word kV_Memory_word dc_Memory_word pm_Memory_word cd_Memory_word ct_Memory_word : Value}
    {f_Machine_word : Addr} {od_Machine_word an_Machine_word : Option Addr} {sl_Machine_word : Array (Option Value)} {oc_Machine_word kV_Machine_word dc_Machine_word pm_Machine_word cd_Machine_word ct_Machine_word : Value}
    {f_Machine_registers : Addr} {od_Machine_registers an_Machine_registers : Option Addr} {sl_Machine_registers : Array (Option Value)} {oc_Machine_registers kV_Machine_registers dc_Machine_registers pm_Machine_registers cd_Machine_registers ct_Machine_registers : Value}
    {f_Memory_root : Addr} {od_Memory_root an_Memory_root : Option Addr} {sl_Memory_root : Array (Option Value)} {oc_Memory_root kV_Memory_root dc_Memory_root pm_Memory_root cd_Memory_root ct_Memory_root : Value}
    {f_Machine_root : Addr} {od_Machine_root an_Machine_root : Option Addr} {sl_Machine_root : Array (Option Value)} {oc_Machine_root kV_Machine_root dc_Machine_root pm_Machine_root cd_Machine_root ct_Machine_root : Value}
    {f_Digests_kept : Addr} {od_Digests_kept an_Digests_kept : Option Addr} {sl_Digests_kept : Array (Option Value)} {oc_Digests_kept kV_Digests_kept dc_Digests_kept pm_Digests_kept cd_Digests_kept ct_Digests_kept : Value}
    {f_Digests_state : Addr} {od_Digests_state an_Digests_state : Option Addr} {sl_Digests_state : Array (Option Value)} {oc_Digests_state kV_Digests_state dc_Digests_state pm_Digests_state cd_Digests_state ct_Digests_state : Value}
    {f_Machine_digest : Addr} {od_Machine_digest an_Machine_digest : Option Addr} {sl_Machine_digest : Array (Option Value)} {oc_Machine_digest kV_Machine_digest dc_Machine_digest pm_Machine_digest cd_Machine_digest ct_Machine_digest : Value}
    {f_Memory_path : Addr} {od_Memory_path an_Memory_path : Option Addr} {sl_Memory_path : Array (Option Value)} {oc_Memory_path kV_Memory_path dc_Memory_path pm_Memory_path cd_Memory_path ct_Memory_path : Value}
    {f_Machine_path : Addr} {od_Machine_path an_Machine_path : Option Addr} {sl_Machine_path : Array (Option Value)} {oc_Machine_path kV_Machine_path dc_Machine_path pm_Machine_path cd_Machine_path ct_Machine_path : Value}
    {f_name_of : Addr} {od_name_of an_name_of : Option Addr} {sl_name_of : Array (Option Value)} {oc_name_of kV_name_of dc_name_of pm_name_of cd_name_of ct_name_of : Value}
    {f_data_of : Addr} {od_data_of an_data_of : Option Addr} {sl_data_of : Array (Option Value)} {oc_data_of kV_data_of dc_data_of pm_data_of cd_data_of ct_data_of : Value}
    {f_wrapped : Addr} {od_wrapped an_wrapped : Option Addr} {sl_wrapped : Array (Option Value)} {oc_wrapped kV_wrapped dc_wrapped pm_wrapped cd_wrapped ct_wrapped : Value}
    {f_compared : Addr} {od_compared an_compared : Option Addr} {sl_compared : Array (Option Value)} {oc_compared kV_compared dc_compared pm_compared cd_compared ct_compared : Value}
    {f_op : Addr} {od_op an_op : Option Addr} {sl_op : Array (Option Value)} {oc_op kV_op dc_op pm_op cd_op ct_op : Value}
    {f_mark_of : Addr} {od_mark_of an_mark_of : Option Addr} {sl_mark_of : Array (Option Value)} {oc_mark_of kV_mark_of dc_mark_of pm_mark_of cd_mark_of ct_mark_of : Value}
    {f_halted : Addr} {od_halted an_halted : Option Addr} {sl_halted : Array (Option Value)} {oc_halted kV_halted dc_halted pm_halted cd_halted ct_halted : Value}
    {f_Digests_fold : Addr} {od_Digests_fold an_Digests_fold : Option Addr} {sl_Digests_fold : Array (Option Value)} {oc_Digests_fold kV_Digests_fold dc_Digests_fold pm_Digests_fold cd_Digests_fold ct_Digests_fold : Value}
    {f_Digests_leaf : Addr} {od_Digests_leaf an_Digests_leaf : Option Addr} {sl_Digests_leaf : Array (Option Value)} {oc_Digests_leaf kV_Digests_leaf dc_Digests_leaf pm_Digests_leaf cd_Digests_leaf ct_Digests_leaf : Value}
    {f_pc_behind : Addr} {od_pc_behind an_pc_behind : Option Addr} {sl_pc_behind : Array (Option Value)} {oc_pc_behind kV_pc_behind dc_pc_behind pm_pc_behind cd_pc_behind ct_pc_behind : Value}
    {f_acc_behind : Addr} {od_acc_behind an_acc_behind : Option Addr} {sl_acc_behind : Array (Option Value)} {oc_acc_behind kV_acc_behind dc_acc_behind pm_acc_behind cd_acc_behind ct_acc_behind : Value}
    {f_done_by : Addr} {od_done_by an_done_by : Option Addr} {sl_done_by : Array (Option Value)} {oc_done_by kV_done_by dc_done_by pm_done_by cd_done_by ct_done_by : Value}
    {f_Memory_change : Addr} {od_Memory_change an_Memory_change : Option Addr} {sl_Memory_change : Array (Option Value)} {oc_Memory_change kV_Memory_change dc_Memory_change pm_Memory_change cd_Memory_change ct_Memory_change : Value}
    {f_Machine_step : Addr} {od_Machine_step an_Machine_step : Option Addr} {sl_Machine_step : Array (Option Value)} {oc_Machine_step kV_Machine_step dc_Machine_step pm_Machine_step cd_Machine_step ct_Machine_step : Value}
    {f_L_draws : Addr} {od_L_draws an_L_draws : Option Addr} {sl_L_draws : Array (Option Value)} {oc_L_draws kV_L_draws dc_L_draws pm_L_draws cd_L_draws ct_L_draws : Value}
    {f_Digests_init : Addr} {od_Digests_init an_Digests_init : Option Addr} {sl_Digests_init : Array (Option Value)} {oc_Digests_init kV_Digests_init dc_Digests_init pm_Digests_init cd_Digests_init ct_Digests_init : Value}
    {f_L_words : Addr} {od_L_words an_L_words : Option Addr} {sl_L_words : Array (Option Value)} {oc_L_words kV_L_words dc_L_words pm_L_words cd_L_words ct_L_words : Value}
    {f_folded : Addr} {od_folded an_folded : Option Addr} {sl_folded : Array (Option Value)} {oc_folded kV_folded dc_folded pm_folded cd_folded ct_folded : Value}
    {f_Memory_init : Addr} {od_Memory_init an_Memory_init : Option Addr} {sl_Memory_init : Array (Option Value)} {oc_Memory_init kV_Memory_init dc_Memory_init pm_Memory_init cd_Memory_init ct_Memory_init : Value}
    {f_Machine_init : Addr} {od_Machine_init an_Machine_init : Option Addr} {sl_Machine_init : Array (Option Value)} {oc_Machine_init kV_Machine_init dc_Machine_init pm_Machine_init cd_Machine_init ct_Machine_init : Value}
    {f_first_registers : Addr} {od_first_registers an_first_registers : Option Addr} {sl_first_registers : Array (Option Value)} {oc_first_registers kV_first_registers dc_first_registers pm_first_registers cd_first_registers ct_first_registers : Value}
    {f_out_of : Addr} {od_out_of an_out_of : Option Addr} {sl_out_of : Array (Option Value)} {oc_out_of kV_out_of dc_out_of pm_out_of cd_out_of ct_out_of : Value}
    {f_History_following : Addr} {od_History_following an_History_following : Option Addr} {sl_History_following : Array (Option Value)} {oc_History_following kV_History_following dc_History_following pm_History_following cd_History_following ct_History_following : Value}
    {f_root_of : Addr} {od_root_of an_root_of : Option Addr} {sl_root_of : Array (Option Value)} {oc_root_of kV_root_of dc_root_of pm_root_of cd_root_of ct_root_of : Value}
    {f_History_init : Addr} {od_History_init an_History_init : Option Addr} {sl_History_init : Array (Option Value)} {oc_History_init kV_History_init dc_History_init pm_History_init cd_History_init ct_History_init : Value}
    {f_opened : Addr} {od_opened an_opened : Option Addr} {sl_opened : Array (Option Value)} {oc_opened kV_opened dc_opened pm_opened cd_opened ct_opened : Value}
    {f_L_run : Addr} {od_L_run an_L_run : Option Addr} {sl_L_run : Array (Option Value)} {oc_L_run kV_L_run dc_L_run pm_L_run cd_L_run ct_L_run : Value}
    {f_History_machine : Addr} {od_History_machine an_History_machine : Option Addr} {sl_History_machine : Array (Option Value)} {oc_History_machine kV_History_machine dc_History_machine pm_History_machine cd_History_machine ct_History_machine : Value}
    {f_History_digest : Addr} {od_History_digest an_History_digest : Option Addr} {sl_History_digest : Array (Option Value)} {oc_History_digest kV_History_digest dc_History_digest pm_History_digest cd_History_digest ct_History_digest : Value}
    {f_History_opening : Addr} {od_History_opening an_History_opening : Option Addr} {sl_History_opening : Array (Option Value)} {oc_History_opening kV_History_opening dc_History_opening pm_History_opening cd_History_opening ct_History_opening : Value}
    {f_History_row : Addr} {od_History_row an_History_row : Option Addr} {sl_History_row : Array (Option Value)} {oc_History_row kV_History_row dc_History_row pm_History_row cd_History_row ct_History_row : Value}
    {f_History_root : Addr} {od_History_root an_History_root : Option Addr} {sl_History_root : Array (Option Value)} {oc_History_root kV_History_root dc_History_root pm_History_root cd_History_root ct_History_root : Value}
    {f_path_of : Addr} {od_path_of an_path_of : Option Addr} {sl_path_of : Array (Option Value)} {oc_path_of kV_path_of dc_path_of pm_path_of cd_path_of ct_path_of : Value}
    {f_History_last_path : Addr} {od_History_last_path an_History_last_path : Option Addr} {sl_History_last_path : Array (Option Value)} {oc_History_last_path kV_History_last_path dc_History_last_path pm_History_last_path cd_History_last_path ct_History_last_path : Value}
    {f_History_halves : Addr} {od_History_halves an_History_halves : Option Addr} {sl_History_halves : Array (Option Value)} {oc_History_halves kV_History_halves dc_History_halves pm_History_halves cd_History_halves ct_History_halves : Value}
    {f_History_end : Addr} {od_History_end an_History_end : Option Addr} {sl_History_end : Array (Option Value)} {oc_History_end kV_History_end dc_History_end pm_History_end cd_History_end ct_History_end : Value}
    {f_must : Addr} {od_must an_must : Option Addr} {sl_must : Array (Option Value)} {oc_must kV_must dc_must pm_must cd_must ct_must : Value}
    {f_is_integer : Addr} {od_is_integer an_is_integer : Option Addr} {sl_is_integer : Array (Option Value)} {oc_is_integer kV_is_integer dc_is_integer pm_is_integer cd_is_integer ct_is_integer : Value}
    {f_is_word : Addr} {od_is_word an_is_word : Option Addr} {sl_is_word : Array (Option Value)} {oc_is_word kV_is_word dc_is_word pm_is_word cd_is_word ct_is_word : Value}
    {f_Digests_is_digest : Addr} {od_Digests_is_digest an_Digests_is_digest : Option Addr} {sl_Digests_is_digest : Array (Option Value)} {oc_Digests_is_digest kV_Digests_is_digest dc_Digests_is_digest pm_Digests_is_digest cd_Digests_is_digest ct_Digests_is_digest : Value}
    {f_are_registers : Addr} {od_are_registers an_are_registers : Option Addr} {sl_are_registers : Array (Option Value)} {oc_are_registers kV_are_registers dc_are_registers pm_are_registers cd_are_registers ct_are_registers : Value}
    {f_is_part : Addr} {od_is_part an_is_part : Option Addr} {sl_is_part : Array (Option Value)} {oc_is_part kV_is_part dc_is_part pm_is_part cd_is_part ct_is_part : Value}
    {f_is_opening : Addr} {od_is_opening an_is_opening : Option Addr} {sl_is_opening : Array (Option Value)} {oc_is_opening kV_is_opening dc_is_opening pm_is_opening cd_is_opening ct_is_opening : Value}
    {f_root_by : Addr} {od_root_by an_root_by : Option Addr} {sl_root_by : Array (Option Value)} {oc_root_by kV_root_by dc_root_by pm_root_by cd_root_by ct_root_by : Value}
    {f_root_with : Addr} {od_root_with an_root_with : Option Addr} {sl_root_with : Array (Option Value)} {oc_root_with kV_root_with dc_root_with pm_root_with cd_root_with ct_root_with : Value}
    {f_step_of : Addr} {od_step_of an_step_of : Option Addr} {sl_step_of : Array (Option Value)} {oc_step_of kV_step_of dc_step_of pm_step_of cd_step_of ct_step_of : Value}
    {f_law : Addr} {od_law an_law : Option Addr} {sl_law : Array (Option Value)} {oc_law kV_law dc_law pm_law cd_law ct_law : Value}
    {C_Memory : Addr}
    {C_Machine : Addr}
    {C_Digests : Addr}
    {C_History : Addr}
    {C_CourtError : Addr}
    {C_BadOpening : Addr}
    {t_FIRST_STATE : Tok}
    {t_ARGUMENTS : Tok}
    {p_NAMES : Addr} {qd_NAMES : Option Addr} {qs_NAMES : Array (Option Value)} {qi_NAMES : Array Value} {qn_NAMES : Nat}
    {t_PLACES_machine : Tok}
    {p_CHANGERS : Addr} {qd_CHANGERS : Option Addr} {qs_CHANGERS : Array (Option Value)} {qi_CHANGERS : Array Value} {qn_CHANGERS : Nat}
    {p_READERS : Addr} {qd_READERS : Option Addr} {qs_READERS : Array (Option Value)} {qi_READERS : Array Value} {qn_READERS : Nat}
    {p_SIGNS : Addr} {qd_SIGNS : Option Addr} {qs_SIGNS : Array (Option Value)} {qi_SIGNS : Array Value} {qn_SIGNS : Nat}
    {t_MOST_WORD : Tok}
    {t_MOST_TOLD : Tok}
    {t_PLACES_trees : Tok}
    {t_FIRST_OUT : Tok}
    {p_MARKS : Addr} {qs_MARKS : Array (Option Value)} {qi_MARKS : Array Value} {qn_MARKS : Nat}
    {t_DEPTH : Tok}
    (aC_Memory : PySem.W.nsIn K mainGlobals "Memory" = some (some (.ref C_Memory)))
    (aC_Machine : PySem.W.nsIn K mainGlobals "Machine" = some (some (.ref C_Machine)))
    (aC_Digests : PySem.W.nsIn K mainGlobals "Digests" = some (some (.ref C_Digests)))
    (aC_History : PySem.W.nsIn K mainGlobals "History" = some (some (.ref C_History)))
    (aC_CourtError : PySem.W.nsIn K mainGlobals "CourtError" = some (some (.ref C_CourtError)))
    (aC_BadOpening : PySem.W.nsIn K mainGlobals "BadOpening" = some (some (.ref C_BadOpening)))
    (a_Machine_told : PySem.W.findIn K (.ref C_Machine) "told" = some (some (.ref f_Machine_told)))
    (i_Machine_told : PySem.W.isFn K (.ref f_Machine_told) = true)
    (l_Machine_told : K.lookup f_Machine_told = some ⟨oc_Machine_told, od_Machine_told, .func (PySem.W.fnOf "told" "Machine.told" (defArgs s_Machine_told) (defBody s_Machine_told) (defScope s_Machine_told) .none kV_Machine_told dc_Machine_told pm_Machine_told an_Machine_told cd_Machine_told ct_Machine_told), sl_Machine_told⟩)
    (c_Machine_told : PySem.W.codeIn K cd_Machine_told "Machine.told" = true)
    (k_Machine_told : PySem.W.keepIn K (.ref f_Machine_told) = true)
    (a_Memory_words : PySem.W.findIn K (.ref C_Memory) "words" = some (some (.ref f_Memory_words)))
    (i_Memory_words : PySem.W.isFn K (.ref f_Memory_words) = true)
    (l_Memory_words : K.lookup f_Memory_words = some ⟨oc_Memory_words, od_Memory_words, .func (PySem.W.fnOf "words" "Memory.words" (defArgs s_Memory_words) (defBody s_Memory_words) (defScope s_Memory_words) .none kV_Memory_words dc_Memory_words pm_Memory_words an_Memory_words cd_Memory_words ct_Memory_words), sl_Memory_words⟩)
    (c_Memory_words : PySem.W.codeIn K cd_Memory_words "Memory.words" = true)
    (k_Memory_words : PySem.W.keepIn K (.ref f_Memory_words) = true)
    (a_Machine_words : PySem.W.findIn K (.ref C_Machine) "words" = some (some (.ref f_Machine_words)))
    (i_Machine_words : PySem.W.isFn K (.ref f_Machine_words) = true)
    (l_Machine_words : K.lookup f_Machine_words = some ⟨oc_Machine_words, od_Machine_words, .func (PySem.W.fnOf "words" "Machine.words" (defArgs s_Machine_words) (defBody s_Machine_words) (defScope s_Machine_words) .none kV_Machine_words dc_Machine_words pm_Machine_words an_Machine_words cd_Machine_words ct_Machine_words), sl_Machine_words⟩)
    (c_Machine_words : PySem.W.codeIn K cd_Machine_words "Machine.words" = true)
    (k_Machine_words : PySem.W.keepIn K (.ref f_Machine_words) = true)
    (a_Memory_word : PySem.W.findIn K (.ref C_Memory) "word" = some (some (.ref f_Memory_word)))
    (i_Memory_word : PySem.W.isFn K (.ref f_Memory_word) = true)
    (l_Memory_word : K.lookup f_Memory_word = some ⟨oc_Memory_word, od_Memory_word, .func (PySem.W.fnOf "word" "Memory.word" (defArgs s_Memory_word) (defBody s_Memory_word) (defScope s_Memory_word) .none kV_Memory_word dc_Memory_word pm_Memory_word an_Memory_word cd_Memory_word ct_Memory_word), sl_Memory_word⟩)
    (c_Memory_word : PySem.W.codeIn K cd_Memory_word "Memory.word" = true)
    (k_Memory_word : PySem.W.keepIn K (.ref f_Memory_word) = true)
    (a_Machine_word : PySem.W.findIn K (.ref C_Machine) "word" = some (some (.ref f_Machine_word)))
    (i_Machine_word : PySem.W.isFn K (.ref f_Machine_word) = true)
    (l_Machine_word : K.lookup f_Machine_word = some ⟨oc_Machine_word, od_Machine_word, .func (PySem.W.fnOf "word" "Machine.word" (defArgs s_Machine_word) (defBody s_Machine_word) (defScope s_Machine_word) .none kV_Machine_word dc_Machine_word pm_Machine_word an_Machine_word cd_Machine_word ct_Machine_word), sl_Machine_word⟩)
    (c_Machine_word : PySem.W.codeIn K cd_Machine_word "Machine.word" = true)
    (k_Machine_word : PySem.W.keepIn K (.ref f_Machine_word) = true)
    (a_Machine_registers : PySem.W.findIn K (.ref C_Machine) "registers" = some (some (.ref f_Machine_registers)))
    (i_Machine_registers : PySem.W.isFn K (.ref f_Machine_registers) = true)
    (l_Machine_registers : K.lookup f_Machine_registers = some ⟨oc_Machine_registers, od_Machine_registers, .func (PySem.W.fnOf "registers" "Machine.registers" (defArgs s_Machine_registers) (defBody s_Machine_registers) (defScope s_Machine_registers) .none kV_Machine_registers dc_Machine_registers pm_Machine_registers an_Machine_registers cd_Machine_registers ct_Machine_registers), sl_Machine_registers⟩)
    (c_Machine_registers : PySem.W.codeIn K cd_Machine_registers "Machine.registers" = true)
    (k_Machine_registers : PySem.W.keepIn K (.ref f_Machine_registers) = true)
    (a_Memory_root : PySem.W.findIn K (.ref C_Memory) "root" = some (some (.ref f_Memory_root)))
    (i_Memory_root : PySem.W.isFn K (.ref f_Memory_root) = true)
    (l_Memory_root : K.lookup f_Memory_root = some ⟨oc_Memory_root, od_Memory_root, .func (PySem.W.fnOf "root" "Memory.root" (defArgs s_Memory_root) (defBody s_Memory_root) (defScope s_Memory_root) .none kV_Memory_root dc_Memory_root pm_Memory_root an_Memory_root cd_Memory_root ct_Memory_root), sl_Memory_root⟩)
    (c_Memory_root : PySem.W.codeIn K cd_Memory_root "Memory.root" = true)
    (k_Memory_root : PySem.W.keepIn K (.ref f_Memory_root) = true)
    (a_Machine_root : PySem.W.findIn K (.ref C_Machine) "root" = some (some (.ref f_Machine_root)))
    (i_Machine_root : PySem.W.isFn K (.ref f_Machine_root) = true)
    (l_Machine_root : K.lookup f_Machine_root = some ⟨oc_Machine_root, od_Machine_root, .func (PySem.W.fnOf "root" "Machine.root" (defArgs s_Machine_root) (defBody s_Machine_root) (defScope s_Machine_root) .none kV_Machine_root dc_Machine_root pm_Machine_root an_Machine_root cd_Machine_root ct_Machine_root), sl_Machine_root⟩)
    (c_Machine_root : PySem.W.codeIn K cd_Machine_root "Machine.root" = true)
    (k_Machine_root : PySem.W.keepIn K (.ref f_Machine_root) = true)
    (a_Digests_kept : PySem.W.findIn K (.ref C_Digests) "_kept" = some (some (.ref f_Digests_kept)))
    (i_Digests_kept : PySem.W.isFn K (.ref f_Digests_kept) = true)
    (l_Digests_kept : K.lookup f_Digests_kept = some ⟨oc_Digests_kept, od_Digests_kept, .func (PySem.W.fnOf "_kept" "Digests._kept" (defArgs s_Digests_kept) (defBody s_Digests_kept) (defScope s_Digests_kept) .none kV_Digests_kept dc_Digests_kept pm_Digests_kept an_Digests_kept cd_Digests_kept ct_Digests_kept), sl_Digests_kept⟩)
    (c_Digests_kept : PySem.W.codeIn K cd_Digests_kept "Digests._kept" = true)
    (k_Digests_kept : PySem.W.keepIn K (.ref f_Digests_kept) = true)
    (a_Digests_state : PySem.W.findIn K (.ref C_Digests) "state" = some (some (.ref f_Digests_state)))
    (i_Digests_state : PySem.W.isFn K (.ref f_Digests_state) = true)
    (l_Digests_state : K.lookup f_Digests_state = some ⟨oc_Digests_state, od_Digests_state, .func (PySem.W.fnOf "state" "Digests.state" (defArgs s_Digests_state) (defBody s_Digests_state) (defScope s_Digests_state) .none kV_Digests_state dc_Digests_state pm_Digests_state an_Digests_state cd_Digests_state ct_Digests_state), sl_Digests_state⟩)
    (c_Digests_state : PySem.W.codeIn K cd_Digests_state "Digests.state" = true)
    (k_Digests_state : PySem.W.keepIn K (.ref f_Digests_state) = true)
    (a_Machine_digest : PySem.W.findIn K (.ref C_Machine) "digest" = some (some (.ref f_Machine_digest)))
    (i_Machine_digest : PySem.W.isFn K (.ref f_Machine_digest) = true)
    (l_Machine_digest : K.lookup f_Machine_digest = some ⟨oc_Machine_digest, od_Machine_digest, .func (PySem.W.fnOf "digest" "Machine.digest" (defArgs s_Machine_digest) (defBody s_Machine_digest) (defScope s_Machine_digest) .none kV_Machine_digest dc_Machine_digest pm_Machine_digest an_Machine_digest cd_Machine_digest ct_Machine_digest), sl_Machine_digest⟩)
    (c_Machine_digest : PySem.W.codeIn K cd_Machine_digest "Machine.digest" = true)
    (k_Machine_digest : PySem.W.keepIn K (.ref f_Machine_digest) = true)
    (a_Memory_path : PySem.W.findIn K (.ref C_Memory) "path" = some (some (.ref f_Memory_path)))
    (i_Memory_path : PySem.W.isFn K (.ref f_Memory_path) = true)
    (l_Memory_path : K.lookup f_Memory_path = some ⟨oc_Memory_path, od_Memory_path, .func (PySem.W.fnOf "path" "Memory.path" (defArgs s_Memory_path) (defBody s_Memory_path) (defScope s_Memory_path) .none kV_Memory_path dc_Memory_path pm_Memory_path an_Memory_path cd_Memory_path ct_Memory_path), sl_Memory_path⟩)
    (c_Memory_path : PySem.W.codeIn K cd_Memory_path "Memory.path" = true)
    (k_Memory_path : PySem.W.keepIn K (.ref f_Memory_path) = true)
    (a_Machine_path : PySem.W.findIn K (.ref C_Machine) "path" = some (some (.ref f_Machine_path)))
    (i_Machine_path : PySem.W.isFn K (.ref f_Machine_path) = true)
    (l_Machine_path : K.lookup f_Machine_path = some ⟨oc_Machine_path, od_Machine_path, .func (PySem.W.fnOf "path" "Machine.path" (defArgs s_Machine_path) (defBody s_Machine_path) (defScope s_Machine_path) .none kV_Machine_path dc_Machine_path pm_Machine_path an_Machine_path cd_Machine_path ct_Machine_path), sl_Machine_path⟩)
    (c_Machine_path : PySem.W.codeIn K cd_Machine_path "Machine.path" = true)
    (k_Machine_path : PySem.W.keepIn K (.ref f_Machine_path) = true)
    (a_name_of : PySem.W.nsIn K mainGlobals "name_of" = some (some (.ref f_name_of)))
    (l_name_of : K.lookup f_name_of = some ⟨oc_name_of, od_name_of, .func (PySem.W.fnOf "name_of" "name_of" (defArgs s_name_of) (defBody s_name_of) (defScope s_name_of) .none kV_name_of dc_name_of pm_name_of an_name_of cd_name_of ct_name_of), sl_name_of⟩)
    (c_name_of : PySem.W.codeIn K cd_name_of "name_of" = true)
    (k_name_of : PySem.W.keepIn K (.ref f_name_of) = true)
    (a_data_of : PySem.W.nsIn K mainGlobals "data_of" = some (some (.ref f_data_of)))
    (l_data_of : K.lookup f_data_of = some ⟨oc_data_of, od_data_of, .func (PySem.W.fnOf "data_of" "data_of" (defArgs s_data_of) (defBody s_data_of) (defScope s_data_of) .none kV_data_of dc_data_of pm_data_of an_data_of cd_data_of ct_data_of), sl_data_of⟩)
    (c_data_of : PySem.W.codeIn K cd_data_of "data_of" = true)
    (k_data_of : PySem.W.keepIn K (.ref f_data_of) = true)
    (a_wrapped : PySem.W.nsIn K mainGlobals "wrapped" = some (some (.ref f_wrapped)))
    (l_wrapped : K.lookup f_wrapped = some ⟨oc_wrapped, od_wrapped, .func (PySem.W.fnOf "wrapped" "wrapped" (defArgs s_wrapped) (defBody s_wrapped) (defScope s_wrapped) .none kV_wrapped dc_wrapped pm_wrapped an_wrapped cd_wrapped ct_wrapped), sl_wrapped⟩)
    (c_wrapped : PySem.W.codeIn K cd_wrapped "wrapped" = true)
    (k_wrapped : PySem.W.keepIn K (.ref f_wrapped) = true)
    (a_compared : PySem.W.nsIn K mainGlobals "compared" = some (some (.ref f_compared)))
    (l_compared : K.lookup f_compared = some ⟨oc_compared, od_compared, .func (PySem.W.fnOf "compared" "compared" (defArgs s_compared) (defBody s_compared) (defScope s_compared) .none kV_compared dc_compared pm_compared an_compared cd_compared ct_compared), sl_compared⟩)
    (c_compared : PySem.W.codeIn K cd_compared "compared" = true)
    (k_compared : PySem.W.keepIn K (.ref f_compared) = true)
    (a_op : PySem.W.nsIn K mainGlobals "op" = some (some (.ref f_op)))
    (l_op : K.lookup f_op = some ⟨oc_op, od_op, .func (PySem.W.fnOf "op" "op" (defArgs s_op) (defBody s_op) (defScope s_op) .none kV_op dc_op pm_op an_op cd_op ct_op), sl_op⟩)
    (c_op : PySem.W.codeIn K cd_op "op" = true)
    (k_op : PySem.W.keepIn K (.ref f_op) = true)
    (a_mark_of : PySem.W.nsIn K mainGlobals "mark_of" = some (some (.ref f_mark_of)))
    (l_mark_of : K.lookup f_mark_of = some ⟨oc_mark_of, od_mark_of, .func (PySem.W.fnOf "mark_of" "mark_of" (defArgs s_mark_of) (defBody s_mark_of) (defScope s_mark_of) .none kV_mark_of dc_mark_of pm_mark_of an_mark_of cd_mark_of ct_mark_of), sl_mark_of⟩)
    (c_mark_of : PySem.W.codeIn K cd_mark_of "mark_of" = true)
    (k_mark_of : PySem.W.keepIn K (.ref f_mark_of) = true)
    (a_halted : PySem.W.nsIn K mainGlobals "halted" = some (some (.ref f_halted)))
    (l_halted : K.lookup f_halted = some ⟨oc_halted, od_halted, .func (PySem.W.fnOf "halted" "halted" (defArgs s_halted) (defBody s_halted) (defScope s_halted) .none kV_halted dc_halted pm_halted an_halted cd_halted ct_halted), sl_halted⟩)
    (c_halted : PySem.W.codeIn K cd_halted "halted" = true)
    (k_halted : PySem.W.keepIn K (.ref f_halted) = true)
    (a_Digests_fold : PySem.W.findIn K (.ref C_Digests) "fold" = some (some (.ref f_Digests_fold)))
    (i_Digests_fold : PySem.W.isFn K (.ref f_Digests_fold) = true)
    (l_Digests_fold : K.lookup f_Digests_fold = some ⟨oc_Digests_fold, od_Digests_fold, .func (PySem.W.fnOf "fold" "Digests.fold" (defArgs s_Digests_fold) (defBody s_Digests_fold) (defScope s_Digests_fold) .none kV_Digests_fold dc_Digests_fold pm_Digests_fold an_Digests_fold cd_Digests_fold ct_Digests_fold), sl_Digests_fold⟩)
    (c_Digests_fold : PySem.W.codeIn K cd_Digests_fold "Digests.fold" = true)
    (k_Digests_fold : PySem.W.keepIn K (.ref f_Digests_fold) = true)
    (a_Digests_leaf : PySem.W.findIn K (.ref C_Digests) "leaf" = some (some (.ref f_Digests_leaf)))
    (i_Digests_leaf : PySem.W.isFn K (.ref f_Digests_leaf) = true)
    (l_Digests_leaf : K.lookup f_Digests_leaf = some ⟨oc_Digests_leaf, od_Digests_leaf, .func (PySem.W.fnOf "leaf" "Digests.leaf" (defArgs s_Digests_leaf) (defBody s_Digests_leaf) (defScope s_Digests_leaf) .none kV_Digests_leaf dc_Digests_leaf pm_Digests_leaf an_Digests_leaf cd_Digests_leaf ct_Digests_leaf), sl_Digests_leaf⟩)
    (c_Digests_leaf : PySem.W.codeIn K cd_Digests_leaf "Digests.leaf" = true)
    (k_Digests_leaf : PySem.W.keepIn K (.ref f_Digests_leaf) = true)
    (a_pc_behind : PySem.W.nsIn K mainGlobals "pc_behind" = some (some (.ref f_pc_behind)))
    (l_pc_behind : K.lookup f_pc_behind = some ⟨oc_pc_behind, od_pc_behind, .func (PySem.W.fnOf "pc_behind" "pc_behind" (defArgs s_pc_behind) (defBody s_pc_behind) (defScope s_pc_behind) .none kV_pc_behind dc_pc_behind pm_pc_behind an_pc_behind cd_pc_behind ct_pc_behind), sl_pc_behind⟩)
    (c_pc_behind : PySem.W.codeIn K cd_pc_behind "pc_behind" = true)
    (k_pc_behind : PySem.W.keepIn K (.ref f_pc_behind) = true)
    (a_acc_behind : PySem.W.nsIn K mainGlobals "acc_behind" = some (some (.ref f_acc_behind)))
    (l_acc_behind : K.lookup f_acc_behind = some ⟨oc_acc_behind, od_acc_behind, .func (PySem.W.fnOf "acc_behind" "acc_behind" (defArgs s_acc_behind) (defBody s_acc_behind) (defScope s_acc_behind) .none kV_acc_behind dc_acc_behind pm_acc_behind an_acc_behind cd_acc_behind ct_acc_behind), sl_acc_behind⟩)
    (c_acc_behind : PySem.W.codeIn K cd_acc_behind "acc_behind" = true)
    (k_acc_behind : PySem.W.keepIn K (.ref f_acc_behind) = true)
    (a_done_by : PySem.W.nsIn K mainGlobals "done_by" = some (some (.ref f_done_by)))
    (l_done_by : K.lookup f_done_by = some ⟨oc_done_by, od_done_by, .func (PySem.W.fnOf "done_by" "done_by" (defArgs s_done_by) (defBody s_done_by) (defScope s_done_by) .none kV_done_by dc_done_by pm_done_by an_done_by cd_done_by ct_done_by), sl_done_by⟩)
    (c_done_by : PySem.W.codeIn K cd_done_by "done_by" = true)
    (k_done_by : PySem.W.keepIn K (.ref f_done_by) = true)
    (a_Memory_change : PySem.W.findIn K (.ref C_Memory) "change" = some (some (.ref f_Memory_change)))
    (i_Memory_change : PySem.W.isFn K (.ref f_Memory_change) = true)
    (l_Memory_change : K.lookup f_Memory_change = some ⟨oc_Memory_change, od_Memory_change, .func (PySem.W.fnOf "change" "Memory.change" (defArgs s_Memory_change) (defBody s_Memory_change) (defScope s_Memory_change) .none kV_Memory_change dc_Memory_change pm_Memory_change an_Memory_change cd_Memory_change ct_Memory_change), sl_Memory_change⟩)
    (c_Memory_change : PySem.W.codeIn K cd_Memory_change "Memory.change" = true)
    (k_Memory_change : PySem.W.keepIn K (.ref f_Memory_change) = true)
    (a_Machine_step : PySem.W.findIn K (.ref C_Machine) "step" = some (some (.ref f_Machine_step)))
    (i_Machine_step : PySem.W.isFn K (.ref f_Machine_step) = true)
    (l_Machine_step : K.lookup f_Machine_step = some ⟨oc_Machine_step, od_Machine_step, .func (PySem.W.fnOf "step" "Machine.step" (defArgs s_Machine_step) (defBody s_Machine_step) (defScope s_Machine_step) .none kV_Machine_step dc_Machine_step pm_Machine_step an_Machine_step cd_Machine_step ct_Machine_step), sl_Machine_step⟩)
    (c_Machine_step : PySem.W.codeIn K cd_Machine_step "Machine.step" = true)
    (k_Machine_step : PySem.W.keepIn K (.ref f_Machine_step) = true)
    (a_L_draws : PySem.W.nsIn K mainGlobals "_law_draws" = some (some (.ref f_L_draws)))
    (l_L_draws : K.lookup f_L_draws = some ⟨oc_L_draws, od_L_draws, .func (PySem.W.fnOf "_law_draws" "_law_draws" (defArgs s_L_draws) (defBody s_L_draws) (defScope s_L_draws) .none kV_L_draws dc_L_draws pm_L_draws an_L_draws cd_L_draws ct_L_draws), sl_L_draws⟩)
    (c_L_draws : PySem.W.codeIn K cd_L_draws "_law_draws" = true)
    (k_L_draws : PySem.W.keepIn K (.ref f_L_draws) = true)
    (a_Digests_init : PySem.W.findIn K (.ref C_Digests) "__init__" = some (some (.ref f_Digests_init)))
    (i_Digests_init : PySem.W.isFn K (.ref f_Digests_init) = true)
    (l_Digests_init : K.lookup f_Digests_init = some ⟨oc_Digests_init, od_Digests_init, .func (PySem.W.fnOf "__init__" "Digests.__init__" (defArgs s_Digests_init) (defBody s_Digests_init) (defScope s_Digests_init) .none kV_Digests_init dc_Digests_init pm_Digests_init an_Digests_init cd_Digests_init ct_Digests_init), sl_Digests_init⟩)
    (c_Digests_init : PySem.W.codeIn K cd_Digests_init "Digests.__init__" = true)
    (k_Digests_init : PySem.W.keepIn K (.ref f_Digests_init) = true)
    (a_L_words : PySem.W.nsIn K mainGlobals "_law_words" = some (some (.ref f_L_words)))
    (l_L_words : K.lookup f_L_words = some ⟨oc_L_words, od_L_words, .func (PySem.W.fnOf "_law_words" "_law_words" (defArgs s_L_words) (defBody s_L_words) (defScope s_L_words) .none kV_L_words dc_L_words pm_L_words an_L_words cd_L_words ct_L_words), sl_L_words⟩)
    (c_L_words : PySem.W.codeIn K cd_L_words "_law_words" = true)
    (k_L_words : PySem.W.keepIn K (.ref f_L_words) = true)
    (a_folded : PySem.W.nsIn K mainGlobals "folded" = some (some (.ref f_folded)))
    (l_folded : K.lookup f_folded = some ⟨oc_folded, od_folded, .func (PySem.W.fnOf "folded" "folded" (defArgs s_folded) (defBody s_folded) (defScope s_folded) .none kV_folded dc_folded pm_folded an_folded cd_folded ct_folded), sl_folded⟩)
    (c_folded : PySem.W.codeIn K cd_folded "folded" = true)
    (k_folded : PySem.W.keepIn K (.ref f_folded) = true)
    (a_Memory_init : PySem.W.findIn K (.ref C_Memory) "__init__" = some (some (.ref f_Memory_init)))
    (i_Memory_init : PySem.W.isFn K (.ref f_Memory_init) = true)
    (l_Memory_init : K.lookup f_Memory_init = some ⟨oc_Memory_init, od_Memory_init, .func (PySem.W.fnOf "__init__" "Memory.__init__" (defArgs s_Memory_init) (defBody s_Memory_init) (defScope s_Memory_init) .none kV_Memory_init dc_Memory_init pm_Memory_init an_Memory_init cd_Memory_init ct_Memory_init), sl_Memory_init⟩)
    (c_Memory_init : PySem.W.codeIn K cd_Memory_init "Memory.__init__" = true)
    (k_Memory_init : PySem.W.keepIn K (.ref f_Memory_init) = true)
    (a_Machine_init : PySem.W.findIn K (.ref C_Machine) "__init__" = some (some (.ref f_Machine_init)))
    (i_Machine_init : PySem.W.isFn K (.ref f_Machine_init) = true)
    (l_Machine_init : K.lookup f_Machine_init = some ⟨oc_Machine_init, od_Machine_init, .func (PySem.W.fnOf "__init__" "Machine.__init__" (defArgs s_Machine_init) (defBody s_Machine_init) (defScope s_Machine_init) .none kV_Machine_init dc_Machine_init pm_Machine_init an_Machine_init cd_Machine_init ct_Machine_init), sl_Machine_init⟩)
    (c_Machine_init : PySem.W.codeIn K cd_Machine_init "Machine.__init__" = true)
    (k_Machine_init : PySem.W.keepIn K (.ref f_Machine_init) = true)
    (a_first_registers : PySem.W.nsIn K mainGlobals "first_registers" = some (some (.ref f_first_registers)))
    (l_first_registers : K.lookup f_first_registers = some ⟨oc_first_registers, od_first_registers, .func (PySem.W.fnOf "first_registers" "first_registers" (defArgs s_first_registers) (defBody s_first_registers) (defScope s_first_registers) .none kV_first_registers dc_first_registers pm_first_registers an_first_registers cd_first_registers ct_first_registers), sl_first_registers⟩)
    (c_first_registers : PySem.W.codeIn K cd_first_registers "first_registers" = true)
    (k_first_registers : PySem.W.keepIn K (.ref f_first_registers) = true)
    (a_out_of : PySem.W.nsIn K mainGlobals "out_of" = some (some (.ref f_out_of)))
    (l_out_of : K.lookup f_out_of = some ⟨oc_out_of, od_out_of, .func (PySem.W.fnOf "out_of" "out_of" (defArgs s_out_of) (defBody s_out_of) (defScope s_out_of) .none kV_out_of dc_out_of pm_out_of an_out_of cd_out_of ct_out_of), sl_out_of⟩)
    (c_out_of : PySem.W.codeIn K cd_out_of "out_of" = true)
    (k_out_of : PySem.W.keepIn K (.ref f_out_of) = true)
    (a_History_following : PySem.W.findIn K (.ref C_History) "_following" = some (some (.ref f_History_following)))
    (i_History_following : PySem.W.isFn K (.ref f_History_following) = true)
    (l_History_following : K.lookup f_History_following = some ⟨oc_History_following, od_History_following, .func (PySem.W.fnOf "_following" "History._following" (defArgs s_History_following) (defBody s_History_following) (defScope s_History_following) .none kV_History_following dc_History_following pm_History_following an_History_following cd_History_following ct_History_following), sl_History_following⟩)
    (c_History_following : PySem.W.codeIn K cd_History_following "History._following" = true)
    (k_History_following : PySem.W.keepIn K (.ref f_History_following) = true)
    (a_root_of : PySem.W.nsIn K mainGlobals "root_of" = some (some (.ref f_root_of)))
    (l_root_of : K.lookup f_root_of = some ⟨oc_root_of, od_root_of, .func (PySem.W.fnOf "root_of" "root_of" (defArgs s_root_of) (defBody s_root_of) (defScope s_root_of) .none kV_root_of dc_root_of pm_root_of an_root_of cd_root_of ct_root_of), sl_root_of⟩)
    (c_root_of : PySem.W.codeIn K cd_root_of "root_of" = true)
    (k_root_of : PySem.W.keepIn K (.ref f_root_of) = true)
    (a_History_init : PySem.W.findIn K (.ref C_History) "__init__" = some (some (.ref f_History_init)))
    (i_History_init : PySem.W.isFn K (.ref f_History_init) = true)
    (l_History_init : K.lookup f_History_init = some ⟨oc_History_init, od_History_init, .func (PySem.W.fnOf "__init__" "History.__init__" (defArgs s_History_init) (defBody s_History_init) (defScope s_History_init) .none kV_History_init dc_History_init pm_History_init an_History_init cd_History_init ct_History_init), sl_History_init⟩)
    (c_History_init : PySem.W.codeIn K cd_History_init "History.__init__" = true)
    (k_History_init : PySem.W.keepIn K (.ref f_History_init) = true)
    (a_opened : PySem.W.nsIn K mainGlobals "opened" = some (some (.ref f_opened)))
    (l_opened : K.lookup f_opened = some ⟨oc_opened, od_opened, .func (PySem.W.fnOf "opened" "opened" (defArgs s_opened) (defBody s_opened) (defScope s_opened) .none kV_opened dc_opened pm_opened an_opened cd_opened ct_opened), sl_opened⟩)
    (c_opened : PySem.W.codeIn K cd_opened "opened" = true)
    (k_opened : PySem.W.keepIn K (.ref f_opened) = true)
    (a_L_run : PySem.W.nsIn K mainGlobals "_law_run" = some (some (.ref f_L_run)))
    (l_L_run : K.lookup f_L_run = some ⟨oc_L_run, od_L_run, .func (PySem.W.fnOf "_law_run" "_law_run" (defArgs s_L_run) (defBody s_L_run) (defScope s_L_run) .none kV_L_run dc_L_run pm_L_run an_L_run cd_L_run ct_L_run), sl_L_run⟩)
    (c_L_run : PySem.W.codeIn K cd_L_run "_law_run" = true)
    (k_L_run : PySem.W.keepIn K (.ref f_L_run) = true)
    (a_History_machine : PySem.W.findIn K (.ref C_History) "_machine" = some (some (.ref f_History_machine)))
    (i_History_machine : PySem.W.isFn K (.ref f_History_machine) = true)
    (l_History_machine : K.lookup f_History_machine = some ⟨oc_History_machine, od_History_machine, .func (PySem.W.fnOf "_machine" "History._machine" (defArgs s_History_machine) (defBody s_History_machine) (defScope s_History_machine) .none kV_History_machine dc_History_machine pm_History_machine an_History_machine cd_History_machine ct_History_machine), sl_History_machine⟩)
    (c_History_machine : PySem.W.codeIn K cd_History_machine "History._machine" = true)
    (k_History_machine : PySem.W.keepIn K (.ref f_History_machine) = true)
    (a_History_digest : PySem.W.findIn K (.ref C_History) "digest" = some (some (.ref f_History_digest)))
    (i_History_digest : PySem.W.isFn K (.ref f_History_digest) = true)
    (l_History_digest : K.lookup f_History_digest = some ⟨oc_History_digest, od_History_digest, .func (PySem.W.fnOf "digest" "History.digest" (defArgs s_History_digest) (defBody s_History_digest) (defScope s_History_digest) .none kV_History_digest dc_History_digest pm_History_digest an_History_digest cd_History_digest ct_History_digest), sl_History_digest⟩)
    (c_History_digest : PySem.W.codeIn K cd_History_digest "History.digest" = true)
    (k_History_digest : PySem.W.keepIn K (.ref f_History_digest) = true)
    (a_History_opening : PySem.W.findIn K (.ref C_History) "opening" = some (some (.ref f_History_opening)))
    (i_History_opening : PySem.W.isFn K (.ref f_History_opening) = true)
    (l_History_opening : K.lookup f_History_opening = some ⟨oc_History_opening, od_History_opening, .func (PySem.W.fnOf "opening" "History.opening" (defArgs s_History_opening) (defBody s_History_opening) (defScope s_History_opening) .none kV_History_opening dc_History_opening pm_History_opening an_History_opening cd_History_opening ct_History_opening), sl_History_opening⟩)
    (c_History_opening : PySem.W.codeIn K cd_History_opening "History.opening" = true)
    (k_History_opening : PySem.W.keepIn K (.ref f_History_opening) = true)
    (a_History_row : PySem.W.findIn K (.ref C_History) "_row" = some (some (.ref f_History_row)))
    (i_History_row : PySem.W.isFn K (.ref f_History_row) = true)
    (l_History_row : K.lookup f_History_row = some ⟨oc_History_row, od_History_row, .func (PySem.W.fnOf "_row" "History._row" (defArgs s_History_row) (defBody s_History_row) (defScope s_History_row) .none kV_History_row dc_History_row pm_History_row an_History_row cd_History_row ct_History_row), sl_History_row⟩)
    (c_History_row : PySem.W.codeIn K cd_History_row "History._row" = true)
    (k_History_row : PySem.W.keepIn K (.ref f_History_row) = true)
    (a_History_root : PySem.W.findIn K (.ref C_History) "root" = some (some (.ref f_History_root)))
    (i_History_root : PySem.W.isFn K (.ref f_History_root) = true)
    (l_History_root : K.lookup f_History_root = some ⟨oc_History_root, od_History_root, .func (PySem.W.fnOf "root" "History.root" (defArgs s_History_root) (defBody s_History_root) (defScope s_History_root) .none kV_History_root dc_History_root pm_History_root an_History_root cd_History_root ct_History_root), sl_History_root⟩)
    (c_History_root : PySem.W.codeIn K cd_History_root "History.root" = true)
    (k_History_root : PySem.W.keepIn K (.ref f_History_root) = true)
    (a_path_of : PySem.W.nsIn K mainGlobals "path_of" = some (some (.ref f_path_of)))
    (l_path_of : K.lookup f_path_of = some ⟨oc_path_of, od_path_of, .func (PySem.W.fnOf "path_of" "path_of" (defArgs s_path_of) (defBody s_path_of) (defScope s_path_of) .none kV_path_of dc_path_of pm_path_of an_path_of cd_path_of ct_path_of), sl_path_of⟩)
    (c_path_of : PySem.W.codeIn K cd_path_of "path_of" = true)
    (k_path_of : PySem.W.keepIn K (.ref f_path_of) = true)
    (a_History_last_path : PySem.W.findIn K (.ref C_History) "_last_path" = some (some (.ref f_History_last_path)))
    (i_History_last_path : PySem.W.isFn K (.ref f_History_last_path) = true)
    (l_History_last_path : K.lookup f_History_last_path = some ⟨oc_History_last_path, od_History_last_path, .func (PySem.W.fnOf "_last_path" "History._last_path" (defArgs s_History_last_path) (defBody s_History_last_path) (defScope s_History_last_path) .none kV_History_last_path dc_History_last_path pm_History_last_path an_History_last_path cd_History_last_path ct_History_last_path), sl_History_last_path⟩)
    (c_History_last_path : PySem.W.codeIn K cd_History_last_path "History._last_path" = true)
    (k_History_last_path : PySem.W.keepIn K (.ref f_History_last_path) = true)
    (a_History_halves : PySem.W.findIn K (.ref C_History) "halves" = some (some (.ref f_History_halves)))
    (i_History_halves : PySem.W.isFn K (.ref f_History_halves) = true)
    (l_History_halves : K.lookup f_History_halves = some ⟨oc_History_halves, od_History_halves, .func (PySem.W.fnOf "halves" "History.halves" (defArgs s_History_halves) (defBody s_History_halves) (defScope s_History_halves) .none kV_History_halves dc_History_halves pm_History_halves an_History_halves cd_History_halves ct_History_halves), sl_History_halves⟩)
    (c_History_halves : PySem.W.codeIn K cd_History_halves "History.halves" = true)
    (k_History_halves : PySem.W.keepIn K (.ref f_History_halves) = true)
    (a_History_end : PySem.W.findIn K (.ref C_History) "end" = some (some (.ref f_History_end)))
    (i_History_end : PySem.W.isFn K (.ref f_History_end) = true)
    (l_History_end : K.lookup f_History_end = some ⟨oc_History_end, od_History_end, .func (PySem.W.fnOf "end" "History.end" (defArgs s_History_end) (defBody s_History_end) (defScope s_History_end) .none kV_History_end dc_History_end pm_History_end an_History_end cd_History_end ct_History_end), sl_History_end⟩)
    (c_History_end : PySem.W.codeIn K cd_History_end "History.end" = true)
    (k_History_end : PySem.W.keepIn K (.ref f_History_end) = true)
    (a_must : PySem.W.nsIn K mainGlobals "must" = some (some (.ref f_must)))
    (l_must : K.lookup f_must = some ⟨oc_must, od_must, .func (PySem.W.fnOf "must" "must" (defArgs s_must) (defBody s_must) (defScope s_must) .none kV_must dc_must pm_must an_must cd_must ct_must), sl_must⟩)
    (c_must : PySem.W.codeIn K cd_must "must" = true)
    (k_must : PySem.W.keepIn K (.ref f_must) = true)
    (a_is_integer : PySem.W.nsIn K mainGlobals "is_integer" = some (some (.ref f_is_integer)))
    (l_is_integer : K.lookup f_is_integer = some ⟨oc_is_integer, od_is_integer, .func (PySem.W.fnOf "is_integer" "is_integer" (defArgs s_is_integer) (defBody s_is_integer) (defScope s_is_integer) .none kV_is_integer dc_is_integer pm_is_integer an_is_integer cd_is_integer ct_is_integer), sl_is_integer⟩)
    (c_is_integer : PySem.W.codeIn K cd_is_integer "is_integer" = true)
    (k_is_integer : PySem.W.keepIn K (.ref f_is_integer) = true)
    (a_is_word : PySem.W.nsIn K mainGlobals "is_word" = some (some (.ref f_is_word)))
    (l_is_word : K.lookup f_is_word = some ⟨oc_is_word, od_is_word, .func (PySem.W.fnOf "is_word" "is_word" (defArgs s_is_word) (defBody s_is_word) (defScope s_is_word) .none kV_is_word dc_is_word pm_is_word an_is_word cd_is_word ct_is_word), sl_is_word⟩)
    (c_is_word : PySem.W.codeIn K cd_is_word "is_word" = true)
    (k_is_word : PySem.W.keepIn K (.ref f_is_word) = true)
    (a_Digests_is_digest : PySem.W.findIn K (.ref C_Digests) "is_digest" = some (some (.ref f_Digests_is_digest)))
    (i_Digests_is_digest : PySem.W.isFn K (.ref f_Digests_is_digest) = true)
    (l_Digests_is_digest : K.lookup f_Digests_is_digest = some ⟨oc_Digests_is_digest, od_Digests_is_digest, .func (PySem.W.fnOf "is_digest" "Digests.is_digest" (defArgs s_Digests_is_digest) (defBody s_Digests_is_digest) (defScope s_Digests_is_digest) .none kV_Digests_is_digest dc_Digests_is_digest pm_Digests_is_digest an_Digests_is_digest cd_Digests_is_digest ct_Digests_is_digest), sl_Digests_is_digest⟩)
    (c_Digests_is_digest : PySem.W.codeIn K cd_Digests_is_digest "Digests.is_digest" = true)
    (k_Digests_is_digest : PySem.W.keepIn K (.ref f_Digests_is_digest) = true)
    (a_are_registers : PySem.W.nsIn K mainGlobals "are_registers" = some (some (.ref f_are_registers)))
    (l_are_registers : K.lookup f_are_registers = some ⟨oc_are_registers, od_are_registers, .func (PySem.W.fnOf "are_registers" "are_registers" (defArgs s_are_registers) (defBody s_are_registers) (defScope s_are_registers) .none kV_are_registers dc_are_registers pm_are_registers an_are_registers cd_are_registers ct_are_registers), sl_are_registers⟩)
    (c_are_registers : PySem.W.codeIn K cd_are_registers "are_registers" = true)
    (k_are_registers : PySem.W.keepIn K (.ref f_are_registers) = true)
    (a_is_part : PySem.W.nsIn K mainGlobals "is_part" = some (some (.ref f_is_part)))
    (l_is_part : K.lookup f_is_part = some ⟨oc_is_part, od_is_part, .func (PySem.W.fnOf "is_part" "is_part" (defArgs s_is_part) (defBody s_is_part) (defScope s_is_part) .none kV_is_part dc_is_part pm_is_part an_is_part cd_is_part ct_is_part), sl_is_part⟩)
    (c_is_part : PySem.W.codeIn K cd_is_part "is_part" = true)
    (k_is_part : PySem.W.keepIn K (.ref f_is_part) = true)
    (a_is_opening : PySem.W.nsIn K mainGlobals "is_opening" = some (some (.ref f_is_opening)))
    (l_is_opening : K.lookup f_is_opening = some ⟨oc_is_opening, od_is_opening, .func (PySem.W.fnOf "is_opening" "is_opening" (defArgs s_is_opening) (defBody s_is_opening) (defScope s_is_opening) .none kV_is_opening dc_is_opening pm_is_opening an_is_opening cd_is_opening ct_is_opening), sl_is_opening⟩)
    (c_is_opening : PySem.W.codeIn K cd_is_opening "is_opening" = true)
    (k_is_opening : PySem.W.keepIn K (.ref f_is_opening) = true)
    (a_root_by : PySem.W.nsIn K mainGlobals "root_by" = some (some (.ref f_root_by)))
    (l_root_by : K.lookup f_root_by = some ⟨oc_root_by, od_root_by, .func (PySem.W.fnOf "root_by" "root_by" (defArgs s_root_by) (defBody s_root_by) (defScope s_root_by) .none kV_root_by dc_root_by pm_root_by an_root_by cd_root_by ct_root_by), sl_root_by⟩)
    (c_root_by : PySem.W.codeIn K cd_root_by "root_by" = true)
    (k_root_by : PySem.W.keepIn K (.ref f_root_by) = true)
    (a_root_with : PySem.W.nsIn K mainGlobals "root_with" = some (some (.ref f_root_with)))
    (l_root_with : K.lookup f_root_with = some ⟨oc_root_with, od_root_with, .func (PySem.W.fnOf "root_with" "root_with" (defArgs s_root_with) (defBody s_root_with) (defScope s_root_with) .none kV_root_with dc_root_with pm_root_with an_root_with cd_root_with ct_root_with), sl_root_with⟩)
    (c_root_with : PySem.W.codeIn K cd_root_with "root_with" = true)
    (k_root_with : PySem.W.keepIn K (.ref f_root_with) = true)
    (a_step_of : PySem.W.nsIn K mainGlobals "step_of" = some (some (.ref f_step_of)))
    (l_step_of : K.lookup f_step_of = some ⟨oc_step_of, od_step_of, .func (PySem.W.fnOf "step_of" "step_of" (defArgs s_step_of) (defBody s_step_of) (defScope s_step_of) .none kV_step_of dc_step_of pm_step_of an_step_of cd_step_of ct_step_of), sl_step_of⟩)
    (c_step_of : PySem.W.codeIn K cd_step_of "step_of" = true)
    (k_step_of : PySem.W.keepIn K (.ref f_step_of) = true)
    (a_law : PySem.W.nsIn K mainGlobals "law" = some (some (.ref f_law)))
    (l_law : K.lookup f_law = some ⟨oc_law, od_law, .func (PySem.W.fnOf "law" "law" (defArgs s_law) (defBody s_law) (defScope s_law) .none kV_law dc_law pm_law an_law cd_law ct_law), sl_law⟩)
    (c_law : PySem.W.codeIn K cd_law "law" = true)
    (k_law : PySem.W.keepIn K (.ref f_law) = true)
    (pg_Memory : PySem.W.plainGet K C_Memory Str.empty = true)
    (hd_Memory : PySem.W.hasDictIn K C_Memory = true)
    (po_Memory : PySem.W.plainOver K C_Memory = true)
    (sa_Memory : PySem.W.findIn K (.ref C_Memory) "__setattr__" = some (some (.builtin "object.__setattr__")))
    (mk_Memory : PySem.W.makesIn K C_Memory = true)
    (kc_Memory : PySem.W.keepIn K (.ref C_Memory) = true)
    (n_Memory__words : PySem.W.findIn K (.ref C_Memory) "_words" = some none)
    (n_Memory__rows : PySem.W.findIn K (.ref C_Memory) "_rows" = some none)
    (n_Memory__digests : PySem.W.findIn K (.ref C_Memory) "_digests" = some none)
    (pg_Machine : PySem.W.plainGet K C_Machine Str.empty = true)
    (hd_Machine : PySem.W.hasDictIn K C_Machine = true)
    (po_Machine : PySem.W.plainOver K C_Machine = true)
    (sa_Machine : PySem.W.findIn K (.ref C_Machine) "__setattr__" = some (some (.builtin "object.__setattr__")))
    (mk_Machine : PySem.W.makesIn K C_Machine = true)
    (kc_Machine : PySem.W.keepIn K (.ref C_Machine) = true)
    (n_Machine__told : PySem.W.findIn K (.ref C_Machine) "_told" = some none)
    (n_Machine__memory : PySem.W.findIn K (.ref C_Machine) "_memory" = some none)
    (n_Machine__registers : PySem.W.findIn K (.ref C_Machine) "_registers" = some none)
    (n_Machine__digests : PySem.W.findIn K (.ref C_Machine) "_digests" = some none)
    (pg_Digests : PySem.W.plainGet K C_Digests Str.empty = true)
    (hd_Digests : PySem.W.hasDictIn K C_Digests = true)
    (po_Digests : PySem.W.plainOver K C_Digests = true)
    (sa_Digests : PySem.W.findIn K (.ref C_Digests) "__setattr__" = some (some (.builtin "object.__setattr__")))
    (mk_Digests : PySem.W.makesIn K C_Digests = true)
    (kc_Digests : PySem.W.keepIn K (.ref C_Digests) = true)
    (n_Digests__modulus : PySem.W.findIn K (.ref C_Digests) "_modulus" = some none)
    (n_Digests__book : PySem.W.findIn K (.ref C_Digests) "_book" = some none)
    (n_Digests__bits : PySem.W.findIn K (.ref C_Digests) "_bits" = some none)
    (pg_History : PySem.W.plainGet K C_History Str.empty = true)
    (hd_History : PySem.W.hasDictIn K C_History = true)
    (po_History : PySem.W.plainOver K C_History = true)
    (sa_History : PySem.W.findIn K (.ref C_History) "__setattr__" = some (some (.builtin "object.__setattr__")))
    (mk_History : PySem.W.makesIn K C_History = true)
    (kc_History : PySem.W.keepIn K (.ref C_History) = true)
    (n_History__turn : PySem.W.findIn K (.ref C_History) "_turn" = some none)
    (n_History__digests : PySem.W.findIn K (.ref C_History) "_digests" = some none)
    (n_History__count : PySem.W.findIn K (.ref C_History) "_count" = some none)
    (n_History__level : PySem.W.findIn K (.ref C_History) "_level" = some none)
    (n_History__block : PySem.W.findIn K (.ref C_History) "_block" = some none)
    (n_History__states : PySem.W.findIn K (.ref C_History) "_states" = some none)
    (n_History__roots : PySem.W.findIn K (.ref C_History) "_roots" = some none)
    (n_History__halves : PySem.W.findIn K (.ref C_History) "_halves" = some none)
    (n_History__openings : PySem.W.findIn K (.ref C_History) "_openings" = some none)
    (n_History__end : PySem.W.findIn K (.ref C_History) "_end" = some none)
    (xe_BadOpening : PySem.W.excIn K C_BadOpening [.type "ValueError", .type "Exception", .type "BaseException", .type "object"] "ValueError.__new__" = true)
    (kc_BadOpening : PySem.W.keepIn K (.ref C_BadOpening) = true)
    (sb_BadOpening : PySem.W.subIn K (.ref C_BadOpening) (.type "BaseException") = some true)
    (ty_BadOpening : PySem.W.typeIn K (.ref C_BadOpening) = some (.type "type"))
    (v_FIRST_STATE : PySem.W.nsIn K mainGlobals "FIRST_STATE" = some (some (.int 3 t_FIRST_STATE)))
    (v_ARGUMENTS : PySem.W.nsIn K mainGlobals "ARGUMENTS" = some (some (.int 1024 t_ARGUMENTS)))
    (v_NAMES : PySem.W.nsIn K mainGlobals "NAMES" = some (some (.ref p_NAMES)))
    (q_NAMES : K.lookup p_NAMES = some ⟨.type "tuple", qd_NAMES, .seq qi_NAMES qn_NAMES, qs_NAMES⟩)
    (z_NAMES : qi_NAMES.size ≤ sizeLine)
    (r_NAMES : Vals [V.str "bad", V.str "halt", V.str "lit", V.str "load", V.str "store", V.str "loadx", V.str "storex", V.str "tox", V.str "index", V.str "bound", V.str "within", V.str "not", V.str "+", V.str "-", V.str "*", V.str "/", V.str "mod", V.str "==", V.str "!=", V.str "<", V.str "<=", V.str ">", V.str ">=", V.str "jump", V.str "zero", V.str "some", V.str "call", V.str "back", V.str "tell"] qi_NAMES.toList)
    (v_PLACES_machine : PySem.W.nsIn K mainGlobals "PLACES_machine" = some (some (.int 256 t_PLACES_machine)))
    (v_CHANGERS : PySem.W.nsIn K mainGlobals "CHANGERS" = some (some (.ref p_CHANGERS)))
    (q_CHANGERS : K.lookup p_CHANGERS = some ⟨.type "tuple", qd_CHANGERS, .seq qi_CHANGERS qn_CHANGERS, qs_CHANGERS⟩)
    (z_CHANGERS : qi_CHANGERS.size ≤ sizeLine)
    (r_CHANGERS : Vals [V.str "store", V.str "storex", V.str "call"] qi_CHANGERS.toList)
    (v_READERS : PySem.W.nsIn K mainGlobals "READERS" = some (some (.ref p_READERS)))
    (q_READERS : K.lookup p_READERS = some ⟨.type "tuple", qd_READERS, .seq qi_READERS qn_READERS, qs_READERS⟩)
    (z_READERS : qi_READERS.size ≤ sizeLine)
    (r_READERS : Vals [V.str "load", V.str "loadx", V.str "index", V.str "within", V.str "back"] qi_READERS.toList)
    (v_SIGNS : PySem.W.nsIn K mainGlobals "SIGNS" = some (some (.ref p_SIGNS)))
    (q_SIGNS : K.lookup p_SIGNS = some ⟨.type "tuple", qd_SIGNS, .seq qi_SIGNS qn_SIGNS, qs_SIGNS⟩)
    (z_SIGNS : qi_SIGNS.size ≤ sizeLine)
    (r_SIGNS : Vals [V.str "+", V.str "-", V.str "*", V.str "/", V.str "mod", V.str "==", V.str "!=", V.str "<", V.str "<=", V.str ">", V.str ">="] qi_SIGNS.toList)
    (v_MOST_WORD : PySem.W.nsIn K mainGlobals "MOST_WORD" = some (some (.int 65535 t_MOST_WORD)))
    (v_MOST_TOLD : PySem.W.nsIn K mainGlobals "MOST_TOLD" = some (some (.int 16 t_MOST_TOLD)))
    (v_PLACES_trees : PySem.W.nsIn K mainGlobals "PLACES_trees" = some (some (.int 256 t_PLACES_trees)))
    (v_FIRST_OUT : PySem.W.nsIn K mainGlobals "FIRST_OUT" = some (some (.int 7 t_FIRST_OUT)))
    (v_MARKS : PySem.W.nsIn K mainGlobals "MARKS" = some (some (.ref p_MARKS)))
    (q_MARKS : K.lookup p_MARKS = some ⟨.type "tuple", none, .seq qi_MARKS qn_MARKS, qs_MARKS⟩)
    (z_MARKS : qi_MARKS.size ≤ sizeLine)
    (r_MARKS : Vals [V.str "long", V.str "done", V.str "divided", V.str "place", V.str "input", V.str "full", V.str "bad"] qi_MARKS.toList)
    (v_DEPTH : PySem.W.nsIn K mainGlobals "DEPTH" = some (some (.int 8 t_DEPTH)))
    (b_abs : PySem.W.nsIn K mainGlobals "abs" = some none)
    (b_all : PySem.W.nsIn K mainGlobals "all" = some none)
    (b_bool : PySem.W.nsIn K mainGlobals "bool" = some none)
    (b_int : PySem.W.nsIn K mainGlobals "int" = some none)
    (b_isinstance : PySem.W.nsIn K mainGlobals "isinstance" = some none)
    (b_len : PySem.W.nsIn K mainGlobals "len" = some none)
    (b_list : PySem.W.nsIn K mainGlobals "list" = some none)
    (b_min : PySem.W.nsIn K mainGlobals "min" = some none)
    (b_range : PySem.W.nsIn K mainGlobals "range" = some none)
    (b_tuple : PySem.W.nsIn K mainGlobals "tuple" = some none) :
    ∃ (fd : FuncData) (Cl : Nat → Addr), (∀ (s : Shared) (v : Value), BindsTo s fd ⟨[v], []⟩ [("_law_script", v)]) ∧ ∀ base : Heap, K.In base → base.Ns mainGlobals mg → FnOk l.prog w K mg base (L2.CX l.prog w) 13 fa fd ["_law_script"] (spM K Cl 1 m_law) := by
  have e : f_law = fa := by
    have z := (PySem.W.mg_of X G a_law).symm.trans hfa
    injection z with z
    injection z
  subst e
  let T : Tx K mg (fun n => [C_Digests, 0, C_Memory, C_Machine, C_History, 0, 0, 0, 0, 0, 0, 0, 0, 0, 0, 0, 0, 0, 0, 0, 0, 0, 0, 0, C_CourtError, 0, 0, 0, 0, C_BadOpening].getD n 0) := {
    a_Machine_told := f_Machine_told,
    d_Machine_told := _,
    F_Machine_told := fun_mk (st := s_Machine_told) l_Machine_told c_Machine_told k_Machine_told,
    m_Machine_told := ⟨a_Machine_told, i_Machine_told, k_Machine_told⟩,
    a_Memory_words := f_Memory_words,
    d_Memory_words := _,
    F_Memory_words := fun_mk (st := s_Memory_words) l_Memory_words c_Memory_words k_Memory_words,
    m_Memory_words := ⟨a_Memory_words, i_Memory_words, k_Memory_words⟩,
    a_Machine_words := f_Machine_words,
    d_Machine_words := _,
    F_Machine_words := fun_mk (st := s_Machine_words) l_Machine_words c_Machine_words k_Machine_words,
    m_Machine_words := ⟨a_Machine_words, i_Machine_words, k_Machine_words⟩,
    a_Memory_word := f_Memory_word,
    d_Memory_word := _,
    F_Memory_word := fun_mk (st := s_Memory_word) l_Memory_word c_Memory_word k_Memory_word,
    m_Memory_word := ⟨a_Memory_word, i_Memory_word, k_Memory_word⟩,
    a_Machine_word := f_Machine_word,
    d_Machine_word := _,
    F_Machine_word := fun_mk (st := s_Machine_word) l_Machine_word c_Machine_word k_Machine_word,
    m_Machine_word := ⟨a_Machine_word, i_Machine_word, k_Machine_word⟩,
    a_Machine_registers := f_Machine_registers,
    d_Machine_registers := _,
    F_Machine_registers := fun_mk (st := s_Machine_registers) l_Machine_registers c_Machine_registers k_Machine_registers,
    m_Machine_registers := ⟨a_Machine_registers, i_Machine_registers, k_Machine_registers⟩,
    a_Memory_root := f_Memory_root,
    d_Memory_root := _,
    F_Memory_root := fun_mk (st := s_Memory_root) l_Memory_root c_Memory_root k_Memory_root,
    m_Memory_root := ⟨a_Memory_root, i_Memory_root, k_Memory_root⟩,
    a_Machine_root := f_Machine_root,
    d_Machine_root := _,
    F_Machine_root := fun_mk (st := s_Machine_root) l_Machine_root c_Machine_root k_Machine_root,
    m_Machine_root := ⟨a_Machine_root, i_Machine_root, k_Machine_root⟩,
    a_Digests_kept := f_Digests_kept,
    d_Digests_kept := _,
    F_Digests_kept := fun_mk (st := s_Digests_kept) l_Digests_kept c_Digests_kept k_Digests_kept,
    m_Digests_kept := ⟨a_Digests_kept, i_Digests_kept, k_Digests_kept⟩,
    a_Digests_state := f_Digests_state,
    d_Digests_state := _,
    F_Digests_state := fun_mk (st := s_Digests_state) l_Digests_state c_Digests_state k_Digests_state,
    m_Digests_state := ⟨a_Digests_state, i_Digests_state, k_Digests_state⟩,
    a_Machine_digest := f_Machine_digest,
    d_Machine_digest := _,
    F_Machine_digest := fun_mk (st := s_Machine_digest) l_Machine_digest c_Machine_digest k_Machine_digest,
    m_Machine_digest := ⟨a_Machine_digest, i_Machine_digest, k_Machine_digest⟩,
    a_Memory_path := f_Memory_path,
    d_Memory_path := _,
    F_Memory_path := fun_mk (st := s_Memory_path) l_Memory_path c_Memory_path k_Memory_path,
    m_Memory_path := ⟨a_Memory_path, i_Memory_path, k_Memory_path⟩,
    a_Machine_path := f_Machine_path,
    d_Machine_path := _,
    F_Machine_path := fun_mk (st := s_Machine_path) l_Machine_path c_Machine_path k_Machine_path,
    m_Machine_path := ⟨a_Machine_path, i_Machine_path, k_Machine_path⟩,
    a_name_of := f_name_of,
    d_name_of := _,
    F_name_of := fun_mk (st := s_name_of) l_name_of c_name_of k_name_of,
    g_name_of := PySem.W.mg_of X G a_name_of,
    a_data_of := f_data_of,
    d_data_of := _,
    F_data_of := fun_mk (st := s_data_of) l_data_of c_data_of k_data_of,
    g_data_of := PySem.W.mg_of X G a_data_of,
    a_wrapped := f_wrapped,
    d_wrapped := _,
    F_wrapped := fun_mk (st := s_wrapped) l_wrapped c_wrapped k_wrapped,
    g_wrapped := PySem.W.mg_of X G a_wrapped,
    a_compared := f_compared,
    d_compared := _,
    F_compared := fun_mk (st := s_compared) l_compared c_compared k_compared,
    g_compared := PySem.W.mg_of X G a_compared,
    a_op := f_op,
    d_op := _,
    F_op := fun_mk (st := s_op) l_op c_op k_op,
    g_op := PySem.W.mg_of X G a_op,
    a_mark_of := f_mark_of,
    d_mark_of := _,
    F_mark_of := fun_mk (st := s_mark_of) l_mark_of c_mark_of k_mark_of,
    g_mark_of := PySem.W.mg_of X G a_mark_of,
    a_halted := f_halted,
    d_halted := _,
    F_halted := fun_mk (st := s_halted) l_halted c_halted k_halted,
    g_halted := PySem.W.mg_of X G a_halted,
    a_Digests_fold := f_Digests_fold,
    d_Digests_fold := _,
    F_Digests_fold := fun_mk (st := s_Digests_fold) l_Digests_fold c_Digests_fold k_Digests_fold,
    m_Digests_fold := ⟨a_Digests_fold, i_Digests_fold, k_Digests_fold⟩,
    a_Digests_leaf := f_Digests_leaf,
    d_Digests_leaf := _,
    F_Digests_leaf := fun_mk (st := s_Digests_leaf) l_Digests_leaf c_Digests_leaf k_Digests_leaf,
    m_Digests_leaf := ⟨a_Digests_leaf, i_Digests_leaf, k_Digests_leaf⟩,
    a_pc_behind := f_pc_behind,
    d_pc_behind := _,
    F_pc_behind := fun_mk (st := s_pc_behind) l_pc_behind c_pc_behind k_pc_behind,
    g_pc_behind := PySem.W.mg_of X G a_pc_behind,
    a_acc_behind := f_acc_behind,
    d_acc_behind := _,
    F_acc_behind := fun_mk (st := s_acc_behind) l_acc_behind c_acc_behind k_acc_behind,
    g_acc_behind := PySem.W.mg_of X G a_acc_behind,
    a_done_by := f_done_by,
    d_done_by := _,
    F_done_by := fun_mk (st := s_done_by) l_done_by c_done_by k_done_by,
    g_done_by := PySem.W.mg_of X G a_done_by,
    a_Memory_change := f_Memory_change,
    d_Memory_change := _,
    F_Memory_change := fun_mk (st := s_Memory_change) l_Memory_change c_Memory_change k_Memory_change,
    m_Memory_change := ⟨a_Memory_change, i_Memory_change, k_Memory_change⟩,
    a_Machine_step := f_Machine_step,
    d_Machine_step := _,
    F_Machine_step := fun_mk (st := s_Machine_step) l_Machine_step c_Machine_step k_Machine_step,
    m_Machine_step := ⟨a_Machine_step, i_Machine_step, k_Machine_step⟩,
    a_L_draws := f_L_draws,
    d_L_draws := _,
    F_L_draws := fun_mk (st := s_L_draws) l_L_draws c_L_draws k_L_draws,
    g_L_draws := PySem.W.mg_of X G a_L_draws,
    a_Digests_init := f_Digests_init,
    d_Digests_init := _,
    F_Digests_init := fun_mk (st := s_Digests_init) l_Digests_init c_Digests_init k_Digests_init,
    M_Digests := ⟨mk_Digests, a_Digests_init, i_Digests_init, kc_Digests⟩,
    a_L_words := f_L_words,
    d_L_words := _,
    F_L_words := fun_mk (st := s_L_words) l_L_words c_L_words k_L_words,
    g_L_words := PySem.W.mg_of X G a_L_words,
    a_folded := f_folded,
    d_folded := _,
    F_folded := fun_mk (st := s_folded) l_folded c_folded k_folded,
    g_folded := PySem.W.mg_of X G a_folded,
    a_Memory_init := f_Memory_init,
    d_Memory_init := _,
    F_Memory_init := fun_mk (st := s_Memory_init) l_Memory_init c_Memory_init k_Memory_init,
    M_Memory := ⟨mk_Memory, a_Memory_init, i_Memory_init, kc_Memory⟩,
    a_Machine_init := f_Machine_init,
    d_Machine_init := _,
    F_Machine_init := fun_mk (st := s_Machine_init) l_Machine_init c_Machine_init k_Machine_init,
    M_Machine := ⟨mk_Machine, a_Machine_init, i_Machine_init, kc_Machine⟩,
    a_first_registers := f_first_registers,
    d_first_registers := _,
    F_first_registers := fun_mk (st := s_first_registers) l_first_registers c_first_registers k_first_registers,
    g_first_registers := PySem.W.mg_of X G a_first_registers,
    a_out_of := f_out_of,
    d_out_of := _,
    F_out_of := fun_mk (st := s_out_of) l_out_of c_out_of k_out_of,
    g_out_of := PySem.W.mg_of X G a_out_of,
    a_History_following := f_History_following,
    d_History_following := _,
    F_History_following := fun_mk (st := s_History_following) l_History_following c_History_following k_History_following,
    m_History_following := ⟨a_History_following, i_History_following, k_History_following⟩,
    a_root_of := f_root_of,
    d_root_of := _,
    F_root_of := fun_mk (st := s_root_of) l_root_of c_root_of k_root_of,
    g_root_of := PySem.W.mg_of X G a_root_of,
    a_History_init := f_History_init,
    d_History_init := _,
    F_History_init := fun_mk (st := s_History_init) l_History_init c_History_init k_History_init,
    M_History := ⟨mk_History, a_History_init, i_History_init, kc_History⟩,
    a_opened := f_opened,
    d_opened := _,
    F_opened := fun_mk (st := s_opened) l_opened c_opened k_opened,
    g_opened := PySem.W.mg_of X G a_opened,
    a_L_run := f_L_run,
    d_L_run := _,
    F_L_run := fun_mk (st := s_L_run) l_L_run c_L_run k_L_run,
    g_L_run := PySem.W.mg_of X G a_L_run,
    a_History_machine := f_History_machine,
    d_History_machine := _,
    F_History_machine := fun_mk (st := s_History_machine) l_History_machine c_History_machine k_History_machine,
    m_History_machine := ⟨a_History_machine, i_History_machine, k_History_machine⟩,
    a_History_digest := f_History_digest,
    d_History_digest := _,
    F_History_digest := fun_mk (st := s_History_digest) l_History_digest c_History_digest k_History_digest,
    m_History_digest := ⟨a_History_digest, i_History_digest, k_History_digest⟩,
    a_History_opening := f_History_opening,
    d_History_opening := _,
    F_History_opening := fun_mk (st := s_History_opening) l_History_opening c_History_opening k_History_opening,
    m_History_opening := ⟨a_History_opening, i_History_opening, k_History_opening⟩,
    a_History_row := f_History_row,
    d_History_row := _,
    F_History_row := fun_mk (st := s_History_row) l_History_row c_History_row k_History_row,
    m_History_row := ⟨a_History_row, i_History_row, k_History_row⟩,
    a_History_root := f_History_root,
    d_History_root := _,
    F_History_root := fun_mk (st := s_History_root) l_History_root c_History_root k_History_root,
    m_History_root := ⟨a_History_root, i_History_root, k_History_root⟩,
    a_path_of := f_path_of,
    d_path_of := _,
    F_path_of := fun_mk (st := s_path_of) l_path_of c_path_of k_path_of,
    g_path_of := PySem.W.mg_of X G a_path_of,
    a_History_last_path := f_History_last_path,
    d_History_last_path := _,
    F_History_last_path := fun_mk (st := s_History_last_path) l_History_last_path c_History_last_path k_History_last_path,
    m_History_last_path := ⟨a_History_last_path, i_History_last_path, k_History_last_path⟩,
    a_History_halves := f_History_halves,
    d_History_halves := _,
    F_History_halves := fun_mk (st := s_History_halves) l_History_halves c_History_halves k_History_halves,
    m_History_halves := ⟨a_History_halves, i_History_halves, k_History_halves⟩,
    a_History_end := f_History_end,
    d_History_end := _,
    F_History_end := fun_mk (st := s_History_end) l_History_end c_History_end k_History_end,
    m_History_end := ⟨a_History_end, i_History_end, k_History_end⟩,
    a_must := f_must,
    d_must := _,
    F_must := fun_mk (st := s_must) l_must c_must k_must,
    g_must := PySem.W.mg_of X G a_must,
    a_is_integer := f_is_integer,
    d_is_integer := _,
    F_is_integer := fun_mk (st := s_is_integer) l_is_integer c_is_integer k_is_integer,
    g_is_integer := PySem.W.mg_of X G a_is_integer,
    a_is_word := f_is_word,
    d_is_word := _,
    F_is_word := fun_mk (st := s_is_word) l_is_word c_is_word k_is_word,
    g_is_word := PySem.W.mg_of X G a_is_word,
    a_Digests_is_digest := f_Digests_is_digest,
    d_Digests_is_digest := _,
    F_Digests_is_digest := fun_mk (st := s_Digests_is_digest) l_Digests_is_digest c_Digests_is_digest k_Digests_is_digest,
    m_Digests_is_digest := ⟨a_Digests_is_digest, i_Digests_is_digest, k_Digests_is_digest⟩,
    a_are_registers := f_are_registers,
    d_are_registers := _,
    F_are_registers := fun_mk (st := s_are_registers) l_are_registers c_are_registers k_are_registers,
    g_are_registers := PySem.W.mg_of X G a_are_registers,
    a_is_part := f_is_part,
    d_is_part := _,
    F_is_part := fun_mk (st := s_is_part) l_is_part c_is_part k_is_part,
    g_is_part := PySem.W.mg_of X G a_is_part,
    a_is_opening := f_is_opening,
    d_is_opening := _,
    F_is_opening := fun_mk (st := s_is_opening) l_is_opening c_is_opening k_is_opening,
    g_is_opening := PySem.W.mg_of X G a_is_opening,
    a_root_by := f_root_by,
    d_root_by := _,
    F_root_by := fun_mk (st := s_root_by) l_root_by c_root_by k_root_by,
    g_root_by := PySem.W.mg_of X G a_root_by,
    a_root_with := f_root_with,
    d_root_with := _,
    F_root_with := fun_mk (st := s_root_with) l_root_with c_root_with k_root_with,
    g_root_with := PySem.W.mg_of X G a_root_with,
    a_step_of := f_step_of,
    d_step_of := _,
    F_step_of := fun_mk (st := s_step_of) l_step_of c_step_of k_step_of,
    g_step_of := PySem.W.mg_of X G a_step_of,
    a_law := f_law,
    d_law := _,
    F_law := fun_mk (st := s_law) l_law c_law k_law,
    g_law := PySem.W.mg_of X G a_law,
    k_Memory := ⟨pg_Memory, hd_Memory, po_Memory, sa_Memory⟩,
    g_Memory := PySem.W.mg_of X G aC_Memory,
    n_Memory__words := n_Memory__words,
    n_Memory__rows := n_Memory__rows,
    n_Memory__digests := n_Memory__digests,
    k_Machine := ⟨pg_Machine, hd_Machine, po_Machine, sa_Machine⟩,
    g_Machine := PySem.W.mg_of X G aC_Machine,
    n_Machine__told := n_Machine__told,
    n_Machine__memory := n_Machine__memory,
    n_Machine__registers := n_Machine__registers,
    n_Machine__digests := n_Machine__digests,
    k_Digests := ⟨pg_Digests, hd_Digests, po_Digests, sa_Digests⟩,
    g_Digests := PySem.W.mg_of X G aC_Digests,
    n_Digests__modulus := n_Digests__modulus,
    n_Digests__book := n_Digests__book,
    n_Digests__bits := n_Digests__bits,
    k_History := ⟨pg_History, hd_History, po_History, sa_History⟩,
    g_History := PySem.W.mg_of X G aC_History,
    n_History__turn := n_History__turn,
    n_History__digests := n_History__digests,
    n_History__count := n_History__count,
    n_History__level := n_History__level,
    n_History__block := n_History__block,
    n_History__states := n_History__states,
    n_History__roots := n_History__roots,
    n_History__halves := n_History__halves,
    n_History__openings := n_History__openings,
    n_History__end := n_History__end,
    g_CourtError := PySem.W.mg_of X G aC_CourtError,
    g_BadOpening := PySem.W.mg_of X G aC_BadOpening,
    x_BadOpening := ⟨PySem.W.mg_of X G aC_BadOpening, xe_BadOpening, kc_BadOpening, sb_BadOpening, ty_BadOpening⟩,
    c_FIRST_STATE := ⟨_, .int 3, PySem.W.mg_of X G v_FIRST_STATE, ⟨_, rfl⟩, fun _ _ => .int _⟩,
    c_ARGUMENTS := ⟨_, .int 1024, PySem.W.mg_of X G v_ARGUMENTS, ⟨_, rfl⟩, fun _ _ => .int _⟩,
    c_NAMES := ⟨_, .ref p_NAMES, PySem.W.mg_of X G v_NAMES, rfl, fun _ _ => .tup (.inr ⟨_, qi_NAMES, qn_NAMES, q_NAMES, rfl, rfl, z_NAMES, r_NAMES⟩) (.cons (.str _) (.cons (.str _) (.cons (.str _) (.cons (.str _) (.cons (.str _) (.cons (.str _) (.cons (.str _) (.cons (.str _) (.cons (.str _) (.cons (.str _) (.cons (.str _) (.cons (.str _) (.cons (.str _) (.cons (.str _) (.cons (.str _) (.cons (.str _) (.cons (.str _) (.cons (.str _) (.cons (.str _) (.cons (.str _) (.cons (.str _) (.cons (.str _) (.cons (.str _) (.cons (.str _) (.cons (.str _) (.cons (.str _) (.cons (.str _) (.cons (.str _) (.cons (.str _) RVs.nil)))))))))))))))))))))))))))))⟩,
    c_PLACES_machine := ⟨_, .int 256, PySem.W.mg_of X G v_PLACES_machine, ⟨_, rfl⟩, fun _ _ => .int _⟩,
    c_CHANGERS := ⟨_, .ref p_CHANGERS, PySem.W.mg_of X G v_CHANGERS, rfl, fun _ _ => .tup (.inr ⟨_, qi_CHANGERS, qn_CHANGERS, q_CHANGERS, rfl, rfl, z_CHANGERS, r_CHANGERS⟩) (.cons (.str _) (.cons (.str _) (.cons (.str _) RVs.nil)))⟩,
    c_READERS := ⟨_, .ref p_READERS, PySem.W.mg_of X G v_READERS, rfl, fun _ _ => .tup (.inr ⟨_, qi_READERS, qn_READERS, q_READERS, rfl, rfl, z_READERS, r_READERS⟩) (.cons (.str _) (.cons (.str _) (.cons (.str _) (.cons (.str _) (.cons (.str _) RVs.nil)))))⟩,
    c_SIGNS := ⟨_, .ref p_SIGNS, PySem.W.mg_of X G v_SIGNS, rfl, fun _ _ => .tup (.inr ⟨_, qi_SIGNS, qn_SIGNS, q_SIGNS, rfl, rfl, z_SIGNS, r_SIGNS⟩) (.cons (.str _) (.cons (.str _) (.cons (.str _) (.cons (.str _) (.cons (.str _) (.cons (.str _) (.cons (.str _) (.cons (.str _) (.cons (.str _) (.cons (.str _) (.cons (.str _) RVs.nil)))))))))))⟩,
    c_MOST_WORD := ⟨_, .int 65535, PySem.W.mg_of X G v_MOST_WORD, ⟨_, rfl⟩, fun _ _ => .int _⟩,
    c_MOST_TOLD := ⟨_, .int 16, PySem.W.mg_of X G v_MOST_TOLD, ⟨_, rfl⟩, fun _ _ => .int _⟩,
    c_PLACES_trees := ⟨_, .int 256, PySem.W.mg_of X G v_PLACES_trees, ⟨_, rfl⟩, fun _ _ => .int _⟩,
    c_FIRST_OUT := ⟨_, .int 7, PySem.W.mg_of X G v_FIRST_OUT, ⟨_, rfl⟩, fun _ _ => .int _⟩,
    x_MARKS := ⟨p_MARKS, _, qi_MARKS, qn_MARKS, PySem.W.mg_of X G v_MARKS, q_MARKS, rfl, rfl, rfl, z_MARKS, r_MARKS⟩,
    c_MARKS := ⟨_, .ref p_MARKS, PySem.W.mg_of X G v_MARKS, rfl, fun _ _ => .tup (.inr ⟨_, qi_MARKS, qn_MARKS, q_MARKS, rfl, rfl, z_MARKS, r_MARKS⟩) (.cons (.str _) (.cons (.str _) (.cons (.str _) (.cons (.str _) (.cons (.str _) (.cons (.str _) (.cons (.str _) RVs.nil)))))))⟩,
    c_DEPTH := ⟨_, .int 8, PySem.W.mg_of X G v_DEPTH, ⟨_, rfl⟩, fun _ _ => .int _⟩,
    b_abs := PySem.W.mg_none_of X G b_abs,
    b_all := PySem.W.mg_none_of X G b_all,
    b_bool := PySem.W.mg_none_of X G b_bool,
    b_int := PySem.W.mg_none_of X G b_int,
    b_isinstance := PySem.W.mg_none_of X G b_isinstance,
    b_len := PySem.W.mg_none_of X G b_len,
    b_list := PySem.W.mg_none_of X G b_list,
    b_min := PySem.W.mg_none_of X G b_min,
    b_range := PySem.W.mg_none_of X G b_range,
    b_tuple := PySem.W.mg_none_of X G b_tuple }
  exact ⟨_, _, fun s v => .of_eq rfl, fun base _ _ => ok_law T⟩
theorem walk {l : PySem.W.OpenLaw} {q : Program} {loose : List Str} {XP : (Str → Option Value) → Heap → Prop} {YP : World → Heap → Prop} {d : DefRec} {K : Params → PySem.W.Frag} (hn : l.most = some 63) (hdf : d.params.defaults = [])
    (hY : ∀ (w : World) (h : Heap), YP w h → (K w.params).In h)
    (hlaw : ∀ ns : List Int, ns.length ≤ 63 → (∀ z ∈ ns, Builtin.Int.intBits z ≤ 1048576) → ∃ st, m_law [.xst (ns.map W.int)] [] = .ok (.bl true) st)
    (F : ∀ (w : World) (mg : Str → Option Value) (fa : Addr) (h : Heap), (K w.params).In h → h.Ns mainGlobals mg → mg d.name = some (.ref fa) →
      ∃ (fd : FuncData) (Cl : Nat → Addr), (∀ (s : Shared) (u : Value), BindsTo s fd ⟨[u], []⟩ [("_law_script", u)]) ∧ ∀ base : Heap, (K w.params).In base → base.Ns mainGlobals mg → FnOk l.prog w (K w.params) mg base (L2.CX l.prog w) 13 fa fd ["_law_script"] (spM (K w.params) Cl 1 m_law)) :
    PySem.W.WalkO q loose XP YP l.row.toRowW d [] (fun f vs => PySem.call f vs) :=
  L2.walk_ofB (n := 63) (k := 13) (x := "_law_script") (CX := fun w => L2.CX l.prog w) (sp := fun w vs H Q E => ∀ Cl, spM (K w.params) Cl 1 m_law vs H Q E) hn (by decide) hdf ⟨rfl, by decide, by decide⟩ hY
    (fun w mg fa h X G hm => by
      obtain ⟨fd, Cl, b, f⟩ := F w mg fa h X G hm
      exact ⟨fd, b, fun base h1 h2 => (f base h1 h2).imp fun vs H Q E q => q Cl⟩)
    (fun w H a ns hl hb hO hS Cl => law_sp hO hS (hlaw ns hl hb)) (fun _ _ _ _ _ z => by obtain ⟨_, _, _, _, _, _, _, _, _, _, _, _, z⟩ := z; exact z)
end Gn

open PySem PySem.W PyProof.Rows
set_option maxRecDepth 100000 in
set_option maxHeartbeats 0 in
theorem PySem.Challenge.cw_onestepcourt_k48_turned_histories_holds : PySem.Challenge.rw_onestepcourt_k48_turned_histories.Holds := by
  w_on; o_law; k_head; (case hw => w_witness2)
  k_fill
  refine Gn.walk (l := PySem.Challenge.rw_onestepcourt_k48_turned_histories) rfl rfl (fun w h Y => PySem.W.kIn_of Y) Gn.law_true ?F
  case F =>
    intro w mg fa h KX G hmg
    refine' Gn.all_mk KX G hmg ?aC_Memory ?aC_Machine ?aC_Digests ?aC_History ?aC_CourtError ?aC_BadOpening ?a_Machine_told ?i_Machine_told ?l_Machine_told ?c_Machine_told ?k_Machine_told ?a_Memory_words ?i_Memory_words ?l_Memory_words ?c_Memory_words ?k_Memory_words ?a_Machine_words ?i_Machine_words ?l_Machine_words ?c_Machine_words ?k_Machine_words ?a_Memory_word ?i_Memory_word ?l_Memory_word ?c_Memory_word ?k_Memory_word ?a_Machine_word ?i_Machine_word ?l_Machine_word ?c_Machine_word ?k_Machine_word ?a_Machine_registers ?i_Machine_registers ?l_Machine_registers ?c_Machine_registers ?k_Machine_registers ?a_Memory_root ?i_Memory_root ?l_Memory_root ?c_Memory_root ?k_Memory_root ?a_Machine_root ?i_Machine_root ?l_Machine_root ?c_Machine_root ?k_Machine_root ?a_Digests_kept ?i_Digests_kept ?l_Digests_kept ?c_Digests_kept ?k_Digests_kept ?a_Digests_state ?i_Digests_state ?l_Digests_state ?c_Digests_state ?k_Digests_state ?a_Machine_digest ?i_Machine_digest ?l_Machine_digest ?c_Machine_digest ?k_Machine_digest ?a_Memory_path ?i_Memory_path ?l_Memory_path ?c_Memory_path ?k_Memory_path ?a_Machine_path ?i_Machine_path ?l_Machine_path ?c_Machine_path ?k_Machine_path ?a_name_of ?l_name_of ?c_name_of ?k_name_of ?a_data_of ?l_data_of ?c_data_of ?k_data_of ?a_wrapped ?l_wrapped ?c_wrapped ?k_wrapped ?a_compared ?l_compared ?c_compared ?k_compared ?a_op ?l_op ?c_op ?k_op ?a_mark_of ?l_mark_of ?c_mark_of ?k_mark_of ?a_halted ?l_halted ?c_halted ?k_halted ?a_Digests_fold ?i_Digests_fold ?l_Digests_fold ?c_Digests_fold ?k_Digests_fold ?a_Digests_leaf ?i_Digests_leaf ?l_Digests_leaf ?c_Digests_leaf ?k_Digests_leaf ?a_pc_behind ?l_pc_behind ?c_pc_behind ?k_pc_behind ?a_acc_behind ?l_acc_behind ?c_acc_behind ?k_acc_behind ?a_done_by ?l_done_by ?c_done_by ?k_done_by ?a_Memory_change ?i_Memory_change ?l_Memory_change ?c_Memory_change ?k_Memory_change ?a_Machine_step ?i_Machine_step ?l_Machine_step ?c_Machine_step ?k_Machine_step ?a_L_draws ?l_L_draws ?c_L_draws ?k_L_draws ?a_Digests_init ?i_Digests_init ?l_Digests_init ?c_Digests_init ?k_Digests_init ?a_L_words ?l_L_words ?c_L_words ?k_L_words ?a_folded ?l_folded ?c_folded ?k_folded ?a_Memory_init ?i_Memory_init ?l_Memory_init ?c_Memory_init ?k_Memory_init ?a_Machine_init ?i_Machine_init ?l_Machine_init ?c_Machine_init ?k_Machine_init ?a_first_registers ?l_first_registers ?c_first_registers ?k_first_registers ?a_out_of ?l_out_of ?c_out_of ?k_out_of ?a_History_following ?i_History_following ?l_History_following ?c_History_following ?k_History_following ?a_root_of ?l_root_of ?c_root_of ?k_root_of ?a_History_init ?i_History_init ?l_History_init ?c_History_init ?k_History_init ?a_opened ?l_opened ?c_opened ?k_opened ?a_L_run ?l_L_run ?c_L_run ?k_L_run ?a_History_machine ?i_History_machine ?l_History_machine ?c_History_machine ?k_History_machine ?a_History_digest ?i_History_digest ?l_History_digest ?c_History_digest ?k_History_digest ?a_History_opening ?i_History_opening ?l_History_opening ?c_History_opening ?k_History_opening ?a_History_row ?i_History_row ?l_History_row ?c_History_row ?k_History_row ?a_History_root ?i_History_root ?l_History_root ?c_History_root ?k_History_root ?a_path_of ?l_path_of ?c_path_of ?k_path_of ?a_History_last_path ?i_History_last_path ?l_History_last_path ?c_History_last_path ?k_History_last_path ?a_History_halves ?i_History_halves ?l_History_halves ?c_History_halves ?k_History_halves ?a_History_end ?i_History_end ?l_History_end ?c_History_end ?k_History_end ?a_must ?l_must ?c_must ?k_must ?a_is_integer ?l_is_integer ?c_is_integer ?k_is_integer ?a_is_word ?l_is_word ?c_is_word ?k_is_word ?a_Digests_is_digest ?i_Digests_is_digest ?l_Digests_is_digest ?c_Digests_is_digest ?k_Digests_is_digest ?a_are_registers ?l_are_registers ?c_are_registers ?k_are_registers ?a_is_part ?l_is_part ?c_is_part ?k_is_part ?a_is_opening ?l_is_opening ?c_is_opening ?k_is_opening ?a_root_by ?l_root_by ?c_root_by ?k_root_by ?a_root_with ?l_root_with ?c_root_with ?k_root_with ?a_step_of ?l_step_of ?c_step_of ?k_step_of ?a_law ?l_law ?c_law ?k_law ?pg_Memory ?hd_Memory ?po_Memory ?sa_Memory ?mk_Memory ?kc_Memory ?n_Memory__words ?n_Memory__rows ?n_Memory__digests ?pg_Machine ?hd_Machine ?po_Machine ?sa_Machine ?mk_Machine ?kc_Machine ?n_Machine__told ?n_Machine__memory ?n_Machine__registers ?n_Machine__digests ?pg_Digests ?hd_Digests ?po_Digests ?sa_Digests ?mk_Digests ?kc_Digests ?n_Digests__modulus ?n_Digests__book ?n_Digests__bits ?pg_History ?hd_History ?po_History ?sa_History ?mk_History ?kc_History ?n_History__turn ?n_History__digests ?n_History__count ?n_History__level ?n_History__block ?n_History__states ?n_History__roots ?n_History__halves ?n_History__openings ?n_History__end ?xe_BadOpening ?kc_BadOpening ?sb_BadOpening ?ty_BadOpening ?v_FIRST_STATE ?v_ARGUMENTS ?v_NAMES ?q_NAMES ?z_NAMES ?r_NAMES ?v_PLACES_machine ?v_CHANGERS ?q_CHANGERS ?z_CHANGERS ?r_CHANGERS ?v_READERS ?q_READERS ?z_READERS ?r_READERS ?v_SIGNS ?q_SIGNS ?z_SIGNS ?r_SIGNS ?v_MOST_WORD ?v_MOST_TOLD ?v_PLACES_trees ?v_FIRST_OUT ?v_MARKS ?q_MARKS ?z_MARKS ?r_MARKS ?v_DEPTH ?b_abs ?b_all ?b_bool ?b_int ?b_isinstance ?b_len ?b_list ?b_min ?b_range ?b_tuple
    (case aC_Memory => k_is); (case aC_Machine => k_is); (case aC_Digests => k_is); (case aC_History => k_is); (case aC_CourtError => k_is); (case aC_BadOpening => k_is)
    (case a_Machine_told => k_is); (case i_Machine_told => k_is); (case l_Machine_told => k_is); (case c_Machine_told => k_is); (case k_Machine_told => k_is); (case a_Memory_words => k_is)
    (case i_Memory_words => k_is); (case l_Memory_words => k_is); (case c_Memory_words => k_is); (case k_Memory_words => k_is); (case a_Machine_words => k_is); (case i_Machine_words => k_is)
    (case l_Machine_words => k_is); (case c_Machine_words => k_is); (case k_Machine_words => k_is); (case a_Memory_word => k_is); (case i_Memory_word => k_is); (case l_Memory_word => k_is)
    (case c_Memory_word => k_is); (case k_Memory_word => k_is); (case a_Machine_word => k_is); (case i_Machine_word => k_is); (case l_Machine_word => k_is); (case c_Machine_word => k_is)
    (case k_Machine_word => k_is); (case a_Machine_registers => k_is); (case i_Machine_registers => k_is); (case l_Machine_registers => k_is); (case c_Machine_registers => k_is); (case k_Machine_registers => k_is)
    (case a_Memory_root => k_is); (case i_Memory_root => k_is); (case l_Memory_root => k_is); (case c_Memory_root => k_is); (case k_Memory_root => k_is); (case a_Machine_root => k_is)
    (case i_Machine_root => k_is); (case l_Machine_root => k_is); (case c_Machine_root => k_is); (case k_Machine_root => k_is); (case a_Digests_kept => k_is); (case i_Digests_kept => k_is)
    (case l_Digests_kept => k_is); (case c_Digests_kept => k_is); (case k_Digests_kept => k_is); (case a_Digests_state => k_is); (case i_Digests_state => k_is); (case l_Digests_state => k_is)
    (case c_Digests_state => k_is); (case k_Digests_state => k_is); (case a_Machine_digest => k_is); (case i_Machine_digest => k_is); (case l_Machine_digest => k_is); (case c_Machine_digest => k_is)
    (case k_Machine_digest => k_is); (case a_Memory_path => k_is); (case i_Memory_path => k_is); (case l_Memory_path => k_is); (case c_Memory_path => k_is); (case k_Memory_path => k_is)
    (case a_Machine_path => k_is); (case i_Machine_path => k_is); (case l_Machine_path => k_is); (case c_Machine_path => k_is); (case k_Machine_path => k_is); (case a_name_of => k_is)
    (case l_name_of => k_is); (case c_name_of => k_is); (case k_name_of => k_is); (case a_data_of => k_is); (case l_data_of => k_is); (case c_data_of => k_is)
    (case k_data_of => k_is); (case a_wrapped => k_is); (case l_wrapped => k_is); (case c_wrapped => k_is); (case k_wrapped => k_is); (case a_compared => k_is)
    (case l_compared => k_is); (case c_compared => k_is); (case k_compared => k_is); (case a_op => k_is); (case l_op => k_is); (case c_op => k_is)
    (case k_op => k_is); (case a_mark_of => k_is); (case l_mark_of => k_is); (case c_mark_of => k_is); (case k_mark_of => k_is); (case a_halted => k_is)
    (case l_halted => k_is); (case c_halted => k_is); (case k_halted => k_is); (case a_Digests_fold => k_is); (case i_Digests_fold => k_is); (case l_Digests_fold => k_is)
    (case c_Digests_fold => k_is); (case k_Digests_fold => k_is); (case a_Digests_leaf => k_is); (case i_Digests_leaf => k_is); (case l_Digests_leaf => k_is); (case c_Digests_leaf => k_is)
    (case k_Digests_leaf => k_is); (case a_pc_behind => k_is); (case l_pc_behind => k_is); (case c_pc_behind => k_is); (case k_pc_behind => k_is); (case a_acc_behind => k_is)
    (case l_acc_behind => k_is); (case c_acc_behind => k_is); (case k_acc_behind => k_is); (case a_done_by => k_is); (case l_done_by => k_is); (case c_done_by => k_is)
    (case k_done_by => k_is); (case a_Memory_change => k_is); (case i_Memory_change => k_is); (case l_Memory_change => k_is); (case c_Memory_change => k_is); (case k_Memory_change => k_is)
    (case a_Machine_step => k_is); (case i_Machine_step => k_is); (case l_Machine_step => k_is); (case c_Machine_step => k_is); (case k_Machine_step => k_is); (case a_L_draws => k_is)
    (case l_L_draws => k_is); (case c_L_draws => k_is); (case k_L_draws => k_is); (case a_Digests_init => k_is); (case i_Digests_init => k_is); (case l_Digests_init => k_is)
    (case c_Digests_init => k_is); (case k_Digests_init => k_is); (case a_L_words => k_is); (case l_L_words => k_is); (case c_L_words => k_is); (case k_L_words => k_is)
    (case a_folded => k_is); (case l_folded => k_is); (case c_folded => k_is); (case k_folded => k_is); (case a_Memory_init => k_is); (case i_Memory_init => k_is)
    (case l_Memory_init => k_is); (case c_Memory_init => k_is); (case k_Memory_init => k_is); (case a_Machine_init => k_is); (case i_Machine_init => k_is); (case l_Machine_init => k_is)
    (case c_Machine_init => k_is); (case k_Machine_init => k_is); (case a_first_registers => k_is); (case l_first_registers => k_is); (case c_first_registers => k_is); (case k_first_registers => k_is)
    (case a_out_of => k_is); (case l_out_of => k_is); (case c_out_of => k_is); (case k_out_of => k_is); (case a_History_following => k_is); (case i_History_following => k_is)
    (case l_History_following => k_is); (case c_History_following => k_is); (case k_History_following => k_is); (case a_root_of => k_is); (case l_root_of => k_is); (case c_root_of => k_is)
    (case k_root_of => k_is); (case a_History_init => k_is); (case i_History_init => k_is); (case l_History_init => k_is); (case c_History_init => k_is); (case k_History_init => k_is)
    (case a_opened => k_is); (case l_opened => k_is); (case c_opened => k_is); (case k_opened => k_is); (case a_L_run => k_is); (case l_L_run => k_is)
    (case c_L_run => k_is); (case k_L_run => k_is); (case a_History_machine => k_is); (case i_History_machine => k_is); (case l_History_machine => k_is); (case c_History_machine => k_is)
    (case k_History_machine => k_is); (case a_History_digest => k_is); (case i_History_digest => k_is); (case l_History_digest => k_is); (case c_History_digest => k_is); (case k_History_digest => k_is)
    (case a_History_opening => k_is); (case i_History_opening => k_is); (case l_History_opening => k_is); (case c_History_opening => k_is); (case k_History_opening => k_is); (case a_History_row => k_is)
    (case i_History_row => k_is); (case l_History_row => k_is); (case c_History_row => k_is); (case k_History_row => k_is); (case a_History_root => k_is); (case i_History_root => k_is)
    (case l_History_root => k_is); (case c_History_root => k_is); (case k_History_root => k_is); (case a_path_of => k_is); (case l_path_of => k_is); (case c_path_of => k_is)
    (case k_path_of => k_is); (case a_History_last_path => k_is); (case i_History_last_path => k_is); (case l_History_last_path => k_is); (case c_History_last_path => k_is); (case k_History_last_path => k_is)
    (case a_History_halves => k_is); (case i_History_halves => k_is); (case l_History_halves => k_is); (case c_History_halves => k_is); (case k_History_halves => k_is); (case a_History_end => k_is)
    (case i_History_end => k_is); (case l_History_end => k_is); (case c_History_end => k_is); (case k_History_end => k_is); (case a_must => k_is); (case l_must => k_is)
    (case c_must => k_is); (case k_must => k_is); (case a_is_integer => k_is); (case l_is_integer => k_is); (case c_is_integer => k_is); (case k_is_integer => k_is)
    (case a_is_word => k_is); (case l_is_word => k_is); (case c_is_word => k_is); (case k_is_word => k_is); (case a_Digests_is_digest => k_is); (case i_Digests_is_digest => k_is)
    (case l_Digests_is_digest => k_is); (case c_Digests_is_digest => k_is); (case k_Digests_is_digest => k_is); (case a_are_registers => k_is); (case l_are_registers => k_is); (case c_are_registers => k_is)
    (case k_are_registers => k_is); (case a_is_part => k_is); (case l_is_part => k_is); (case c_is_part => k_is); (case k_is_part => k_is); (case a_is_opening => k_is)
    (case l_is_opening => k_is); (case c_is_opening => k_is); (case k_is_opening => k_is); (case a_root_by => k_is); (case l_root_by => k_is); (case c_root_by => k_is)
    (case k_root_by => k_is); (case a_root_with => k_is); (case l_root_with => k_is); (case c_root_with => k_is); (case k_root_with => k_is); (case a_step_of => k_is)
    (case l_step_of => k_is); (case c_step_of => k_is); (case k_step_of => k_is); (case a_law => k_is); (case l_law => k_is); (case c_law => k_is)
    (case k_law => k_is); (case pg_Memory => k_is); (case hd_Memory => k_is); (case po_Memory => k_is); (case sa_Memory => k_is); (case mk_Memory => k_is)
    (case kc_Memory => k_is); (case n_Memory__words => k_is); (case n_Memory__rows => k_is); (case n_Memory__digests => k_is); (case pg_Machine => k_is); (case hd_Machine => k_is)
    (case po_Machine => k_is); (case sa_Machine => k_is); (case mk_Machine => k_is); (case kc_Machine => k_is); (case n_Machine__told => k_is); (case n_Machine__memory => k_is)
    (case n_Machine__registers => k_is); (case n_Machine__digests => k_is); (case pg_Digests => k_is); (case hd_Digests => k_is); (case po_Digests => k_is); (case sa_Digests => k_is)
    (case mk_Digests => k_is); (case kc_Digests => k_is); (case n_Digests__modulus => k_is); (case n_Digests__book => k_is); (case n_Digests__bits => k_is); (case pg_History => k_is)
    (case hd_History => k_is); (case po_History => k_is); (case sa_History => k_is); (case mk_History => k_is); (case kc_History => k_is); (case n_History__turn => k_is)
    (case n_History__digests => k_is); (case n_History__count => k_is); (case n_History__level => k_is); (case n_History__block => k_is); (case n_History__states => k_is); (case n_History__roots => k_is)
    (case n_History__halves => k_is); (case n_History__openings => k_is); (case n_History__end => k_is); (case xe_BadOpening => k_exc); (case kc_BadOpening => k_is); (case sb_BadOpening => k_is)
    (case ty_BadOpening => k_is); (case v_FIRST_STATE => k_is); (case v_ARGUMENTS => k_is); (case v_NAMES => k_is); (case q_NAMES => k_is); (case z_NAMES => decide)
    (case r_NAMES => exact .cons ⟨_, rfl⟩ (.cons ⟨_, rfl⟩ (.cons ⟨_, rfl⟩ (.cons ⟨_, rfl⟩ (.cons ⟨_, rfl⟩ (.cons ⟨_, rfl⟩ (.cons ⟨_, rfl⟩ (.cons ⟨_, rfl⟩ (.cons ⟨_, rfl⟩ (.cons ⟨_, rfl⟩ (.cons ⟨_, rfl⟩ (.cons ⟨_, rfl⟩ (.cons ⟨_, rfl⟩ (.cons ⟨_, rfl⟩ (.cons ⟨_, rfl⟩ (.cons ⟨_, rfl⟩ (.cons ⟨_, rfl⟩ (.cons ⟨_, rfl⟩ (.cons ⟨_, rfl⟩ (.cons ⟨_, rfl⟩ (.cons ⟨_, rfl⟩ (.cons ⟨_, rfl⟩ (.cons ⟨_, rfl⟩ (.cons ⟨_, rfl⟩ (.cons ⟨_, rfl⟩ (.cons ⟨_, rfl⟩ (.cons ⟨_, rfl⟩ (.cons ⟨_, rfl⟩ (.cons ⟨_, rfl⟩ (.nil)))))))))))))))))))))))))))))); (case v_PLACES_machine => k_is); (case v_CHANGERS => k_is); (case q_CHANGERS => k_is); (case z_CHANGERS => decide); (case r_CHANGERS => exact .cons ⟨_, rfl⟩ (.cons ⟨_, rfl⟩ (.cons ⟨_, rfl⟩ (.nil))))
    (case v_READERS => k_is); (case q_READERS => k_is); (case z_READERS => decide); (case r_READERS => exact .cons ⟨_, rfl⟩ (.cons ⟨_, rfl⟩ (.cons ⟨_, rfl⟩ (.cons ⟨_, rfl⟩ (.cons ⟨_, rfl⟩ (.nil)))))); (case v_SIGNS => k_is); (case q_SIGNS => k_is)
    (case z_SIGNS => decide); (case r_SIGNS => exact .cons ⟨_, rfl⟩ (.cons ⟨_, rfl⟩ (.cons ⟨_, rfl⟩ (.cons ⟨_, rfl⟩ (.cons ⟨_, rfl⟩ (.cons ⟨_, rfl⟩ (.cons ⟨_, rfl⟩ (.cons ⟨_, rfl⟩ (.cons ⟨_, rfl⟩ (.cons ⟨_, rfl⟩ (.cons ⟨_, rfl⟩ (.nil)))))))))))); (case v_MOST_WORD => k_is); (case v_MOST_TOLD => k_is); (case v_PLACES_trees => k_is); (case v_FIRST_OUT => k_is)
    (case v_MARKS => k_is); (case q_MARKS => k_is); (case z_MARKS => decide); (case r_MARKS => exact .cons ⟨_, rfl⟩ (.cons ⟨_, rfl⟩ (.cons ⟨_, rfl⟩ (.cons ⟨_, rfl⟩ (.cons ⟨_, rfl⟩ (.cons ⟨_, rfl⟩ (.cons ⟨_, rfl⟩ (.nil)))))))); (case v_DEPTH => k_is); (case b_abs => k_is)
    (case b_all => k_is); (case b_bool => k_is); (case b_int => k_is); (case b_isinstance => k_is); (case b_len => k_is); (case b_list => k_is)
    (case b_min => k_is); (case b_range => k_is); (case b_tuple => k_is)
#print axioms PySem.Challenge.cw_onestepcourt_k48_turned_histories_holds
